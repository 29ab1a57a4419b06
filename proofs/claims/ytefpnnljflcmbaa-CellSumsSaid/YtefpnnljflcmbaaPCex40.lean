-- Written by a program of this session (wip/tool), which goes by the kit's print.
import Derived.Test.YtefpnnljflcmbaaPCex0
import Derived.Test.YtefpnnljflcmbaaPCex1
import Derived.Test.YtefpnnljflcmbaaPCex2
import Derived.Test.YtefpnnljflcmbaaPCex7
import Derived.Test.YtefpnnljflcmbaaPCex11
import Derived.Test.YtefpnnljflcmbaaPCex13
import Derived.Test.YtefpnnljflcmbaaPCex14
import Derived.Test.YtefpnnljflcmbaaPCex31
import Derived.Test.YtefpnnljflcmbaaPCex32
import Derived.Test.YtefpnnljflcmbaaPCex33
import Derived.Test.YtefpnnljflcmbaaPCex34
import Derived.Test.YtefpnnljflcmbaaPCex35
import Derived.Test.YtefpnnljflcmbaaPCex37
import Derived.Test.YtefpnnljflcmbaaPCex38
import Derived.Test.YtefpnnljflcmbaaPCex39
namespace Go.Proofs.Ytefpnnljflcmbaa.PCe
open Go.RowKit Go.Proofs.YtefpnnljflcmbaaW.PrintWords Go.Proofs.YtefpnnljflcmbaaW.PrintLast Go.Proofs.YtefpnnljflcmbaaW.PrintMore
attribute [local go_sem] max2_int min2_int max_two min_two max_three min_three max_four min_four   -- for this text's walks alone
set_option linter.unusedVariables false
set_option linter.unusedSimpArgs false

attribute [local go_sem high] eqA35
/-! ### hindsightlaw02_CellSums: function 11 -/
theorem bN11 : type_of% @blk_drewN := @blk_drewN
theorem bD11 : type_of% @blk_drew := @blk_drew
theorem bA11 : type_of% @blk_alloc := @blk_alloc
theorem bB11 : type_of% @blk_below := @blk_below
theorem bF11 : type_of% @blk_far := @blk_far
theorem bS11 : type_of% @below_set := @below_set
theorem aM11 : type_of% @Aside0.mk := @Aside0.mk
mutual
def hindsightlaw02_CellSums.j0 : Nat → Bool → Int → Int → ByteArray → Int → Int → ByteArray → Option (Bool)
 | 0, _, _, _, _, _, _, _ => none
 | k + 1, x32, x567000, x567001, x567002, x568000, x568001, x568002 => if x32 = true then (none) else ((cell_Sub.f k x567000 x567001 x567002 x568000 x568001 x568002).bind fun bt580 => ((hindsightref02_Sub.f k x567000 x567001 x567002 x568000 x568001 x568002).bind fun bt584 => (if (!(bt580.1 == bt584.1) || (!(bt580.2.1 == bt584.2.1) || (!(bt580.2.2.1.toList == bt584.2.2.1.toList)))) = true then (hindsightlaw02_CellSums.j1 k true x567000 x567001 x567002 x568000 x568001 x568002) else (hindsightlaw02_CellSums.j1 k (bt580.2.2.2 != bt584.2.2.2) x567000 x567001 x567002 x568000 x568001 x568002))))
def hindsightlaw02_CellSums.j1 : Nat → Bool → Int → Int → ByteArray → Int → Int → ByteArray → Option (Bool)
 | 0, _, _, _, _, _, _, _ => none
 | k + 1, x52, x567000, x567001, x567002, x568000, x568001, x568002 => if x52 = true then (none) else ((cell_Mul.f k x567000 x567001 x567002 x568000 x568001 x568002).bind fun bt588 => ((hindsightref02_Mul.f k x567000 x567001 x567002 x568000 x568001 x568002).bind fun bt592 => (if (!(bt588.1 == bt592.1) || (!(bt588.2.1 == bt592.2.1) || (!(bt588.2.2.1.toList == bt592.2.2.1.toList)))) = true then (hindsightlaw02_CellSums.j2 k true x567000 x567001 x567002 x568000 x568001 x568002) else (hindsightlaw02_CellSums.j2 k (bt588.2.2.2 != bt592.2.2.2) x567000 x567001 x567002 x568000 x568001 x568002))))
def hindsightlaw02_CellSums.j2 : Nat → Bool → Int → Int → ByteArray → Int → Int → ByteArray → Option (Bool)
 | 0, _, _, _, _, _, _, _ => none
 | k + 1, x72, x567000, x567001, x567002, x568000, x568001, x568002 => if x72 = true then (none) else ((cell_Div.f k x567000 x567001 x567002 x568000 x568001 x568002).bind fun bt596 => ((hindsightref02_Div.f k x567000 x567001 x567002 x568000 x568001 x568002 false).bind fun bt600 => (if (!(bt596.1 == bt600.1) || (!(bt596.2.1 == bt600.2.1) || (!(bt596.2.2.1.toList == bt600.2.2.1.toList)))) = true then (hindsightlaw02_CellSums.j3 k true x567000 x567001 x567002 x568000 x568001 x568002) else (hindsightlaw02_CellSums.j3 k (bt596.2.2.2 != bt600.2.2.2) x567000 x567001 x567002 x568000 x568001 x568002))))
def hindsightlaw02_CellSums.j3 : Nat → Bool → Int → Int → ByteArray → Int → Int → ByteArray → Option (Bool)
 | 0, _, _, _, _, _, _, _ => none
 | k + 1, x92, x567000, x567001, x567002, x568000, x568001, x568002 => if x92 = true then (none) else ((cell_Mod.f k x567000 x567001 x567002 x568000 x568001 x568002).bind fun bt604 => ((hindsightref02_Div.f k x567000 x567001 x567002 x568000 x568001 x568002 true).bind fun bt608 => (if (!(bt604.1 == bt608.1) || (!(bt604.2.1 == bt608.2.1) || (!(bt604.2.2.1.toList == bt608.2.2.1.toList)))) = true then (hindsightlaw02_CellSums.j4 k true x567000 x567001 x567002) else (hindsightlaw02_CellSums.j4 k (bt604.2.2.2 != bt608.2.2.2) x567000 x567001 x567002))))
def hindsightlaw02_CellSums.j4 : Nat → Bool → Int → Int → ByteArray → Option (Bool)
 | 0, _, _, _, _ => none
 | k + 1, x112, x567000, x567001, x567002 => if x112 = true then (none) else ((cell_Neg.f k x567000 x567001 x567002).bind fun bt612 => ((hindsightref02_Number.f 0).bind fun bt616 => ((hindsightref02_Sub.f k bt616.1 bt616.2.1 bt616.2.2 x567000 x567001 x567002).bind fun bt619 => ((hindsightlaw02_alive.f k).bind fun t623 => (if t623 = true then (if (bt612.1 == bt619.1 && (bt612.2.1 == bt619.2.1 && (bt612.2.2.1.toList == bt619.2.2.1.toList))) = true then (some (bt612.2.2.2 == bt619.2.2.2)) else (none)) else (none))))))
end
def hindsightlaw02_CellSums.f (k : Nat) (a0_0 : Int) (a0_1 : Int) (a0_2 : ByteArray) (a1_0 : Int) (a1_1 : Int) (a1_2 : ByteArray) : Option (Bool) := (hindsightlaw02_great.f a0_0 a0_1 a0_2 a1_0 a1_1 a1_2).bind fun t568 => (if t568 = true then ((hindsightlaw02_alive.f k).bind fun t569 => (some t569)) else ((cell_Add.f k a0_0 a0_1 a0_2 a1_0 a1_1 a1_2).bind fun bt570 => ((hindsightref02_Add.f k a0_0 a0_1 a0_2 a1_0 a1_1 a1_2).bind fun bt575 => (if (!(bt570.1 == bt575.1) || (!(bt570.2.1 == bt575.2.1) || (!(bt570.2.2.1.toList == bt575.2.2.1.toList)))) = true then (hindsightlaw02_CellSums.j0 k true a0_0 a0_1 a0_2 a1_0 a1_1 a1_2) else (hindsightlaw02_CellSums.j0 k (bt570.2.2.2 != bt575.2.2.2) a0_0 a0_1 a0_2 a1_0 a1_1 a1_2)))))
theorem hindsightlaw02_CellSums.mono_l : ∀ k, (∀ y0 y1 y2 y3 y4 y5 y6, LeO (hindsightlaw02_CellSums.j0 k y0 y1 y2 y3 y4 y5 y6) (hindsightlaw02_CellSums.j0 (k + 1) y0 y1 y2 y3 y4 y5 y6)) ∧ (∀ y0 y1 y2 y3 y4 y5 y6, LeO (hindsightlaw02_CellSums.j1 k y0 y1 y2 y3 y4 y5 y6) (hindsightlaw02_CellSums.j1 (k + 1) y0 y1 y2 y3 y4 y5 y6)) ∧ (∀ y0 y1 y2 y3 y4 y5 y6, LeO (hindsightlaw02_CellSums.j2 k y0 y1 y2 y3 y4 y5 y6) (hindsightlaw02_CellSums.j2 (k + 1) y0 y1 y2 y3 y4 y5 y6)) ∧ (∀ y0 y1 y2 y3 y4 y5 y6, LeO (hindsightlaw02_CellSums.j3 k y0 y1 y2 y3 y4 y5 y6) (hindsightlaw02_CellSums.j3 (k + 1) y0 y1 y2 y3 y4 y5 y6)) ∧ (∀ y0 y1 y2 y3, LeO (hindsightlaw02_CellSums.j4 k y0 y1 y2 y3) (hindsightlaw02_CellSums.j4 (k + 1) y0 y1 y2 y3))
 | 0 => ⟨fun _ _ _ _ _ _ _ r h => by simp [hindsightlaw02_CellSums.j0] at h, fun _ _ _ _ _ _ _ r h => by simp [hindsightlaw02_CellSums.j1] at h, fun _ _ _ _ _ _ _ r h => by simp [hindsightlaw02_CellSums.j2] at h, fun _ _ _ _ _ _ _ r h => by simp [hindsightlaw02_CellSums.j3] at h, fun _ _ _ _ r h => by simp [hindsightlaw02_CellSums.j4] at h⟩
 | k + 1 => by
  obtain ⟨ih0, ih1, ih2, ih3, ih4⟩ := hindsightlaw02_CellSums.mono_l k
  refine ⟨?_, ?_, ?_, ?_, ?_⟩
  ·intro y0 y1 y2 y3 y4 y5 y6
   unfold hindsightlaw02_CellSums.j0
   repeat' first
   | (with_reducible exact ih0 _ _ _ _ _ _ _)
   | (with_reducible exact ih1 _ _ _ _ _ _ _)
   | (with_reducible exact ih2 _ _ _ _ _ _ _)
   | (with_reducible exact ih3 _ _ _ _ _ _ _)
   | (with_reducible exact ih4 _ _ _ _)
   | (with_reducible exact cell_Add.mono _ _ _ _ _ _ _)
   | (with_reducible exact cell_Div.mono _ _ _ _ _ _ _)
   | (with_reducible exact cell_Mod.mono _ _ _ _ _ _ _)
   | (with_reducible exact cell_Mul.mono _ _ _ _ _ _ _)
   | (with_reducible exact cell_Neg.mono _ _ _ _)
   | (with_reducible exact cell_Sub.mono _ _ _ _ _ _ _)
   | (with_reducible exact hindsightlaw02_alive.mono _)
   | (with_reducible exact hindsightref02_Add.mono _ _ _ _ _ _ _)
   | (with_reducible exact hindsightref02_Div.mono _ _ _ _ _ _ _ _)
   | (with_reducible exact hindsightref02_Mul.mono _ _ _ _ _ _ _)
   | (with_reducible exact hindsightref02_Sub.mono _ _ _ _ _ _ _)
   | (with_reducible exact LeO.refl _)
   | (with_reducible exact LeO.none _)
   | (with_reducible refine LeO.ite ?_ ?_)
   | (with_reducible refine LeO.bind ?_ (fun _ => ?_))
   | exact ih0 _ _ _ _ _ _ _
   | exact ih1 _ _ _ _ _ _ _
   | exact ih2 _ _ _ _ _ _ _
   | exact ih3 _ _ _ _ _ _ _
   | exact ih4 _ _ _ _
   | exact cell_Add.mono _ _ _ _ _ _ _
   | exact cell_Div.mono _ _ _ _ _ _ _
   | exact cell_Mod.mono _ _ _ _ _ _ _
   | exact cell_Mul.mono _ _ _ _ _ _ _
   | exact cell_Neg.mono _ _ _ _
   | exact cell_Sub.mono _ _ _ _ _ _ _
   | exact hindsightlaw02_alive.mono _
   | exact hindsightref02_Add.mono _ _ _ _ _ _ _
   | exact hindsightref02_Div.mono _ _ _ _ _ _ _ _
   | exact hindsightref02_Mul.mono _ _ _ _ _ _ _
   | exact hindsightref02_Sub.mono _ _ _ _ _ _ _
   | exact LeO.none _
   | refine LeO.ite ?_ ?_
   | refine LeO.bind ?_ (fun _ => ?_)
  ·intro y0 y1 y2 y3 y4 y5 y6
   unfold hindsightlaw02_CellSums.j1
   repeat' first
   | (with_reducible exact ih0 _ _ _ _ _ _ _)
   | (with_reducible exact ih1 _ _ _ _ _ _ _)
   | (with_reducible exact ih2 _ _ _ _ _ _ _)
   | (with_reducible exact ih3 _ _ _ _ _ _ _)
   | (with_reducible exact ih4 _ _ _ _)
   | (with_reducible exact cell_Add.mono _ _ _ _ _ _ _)
   | (with_reducible exact cell_Div.mono _ _ _ _ _ _ _)
   | (with_reducible exact cell_Mod.mono _ _ _ _ _ _ _)
   | (with_reducible exact cell_Mul.mono _ _ _ _ _ _ _)
   | (with_reducible exact cell_Neg.mono _ _ _ _)
   | (with_reducible exact cell_Sub.mono _ _ _ _ _ _ _)
   | (with_reducible exact hindsightlaw02_alive.mono _)
   | (with_reducible exact hindsightref02_Add.mono _ _ _ _ _ _ _)
   | (with_reducible exact hindsightref02_Div.mono _ _ _ _ _ _ _ _)
   | (with_reducible exact hindsightref02_Mul.mono _ _ _ _ _ _ _)
   | (with_reducible exact hindsightref02_Sub.mono _ _ _ _ _ _ _)
   | (with_reducible exact LeO.refl _)
   | (with_reducible exact LeO.none _)
   | (with_reducible refine LeO.ite ?_ ?_)
   | (with_reducible refine LeO.bind ?_ (fun _ => ?_))
   | exact ih0 _ _ _ _ _ _ _
   | exact ih1 _ _ _ _ _ _ _
   | exact ih2 _ _ _ _ _ _ _
   | exact ih3 _ _ _ _ _ _ _
   | exact ih4 _ _ _ _
   | exact cell_Add.mono _ _ _ _ _ _ _
   | exact cell_Div.mono _ _ _ _ _ _ _
   | exact cell_Mod.mono _ _ _ _ _ _ _
   | exact cell_Mul.mono _ _ _ _ _ _ _
   | exact cell_Neg.mono _ _ _ _
   | exact cell_Sub.mono _ _ _ _ _ _ _
   | exact hindsightlaw02_alive.mono _
   | exact hindsightref02_Add.mono _ _ _ _ _ _ _
   | exact hindsightref02_Div.mono _ _ _ _ _ _ _ _
   | exact hindsightref02_Mul.mono _ _ _ _ _ _ _
   | exact hindsightref02_Sub.mono _ _ _ _ _ _ _
   | exact LeO.none _
   | refine LeO.ite ?_ ?_
   | refine LeO.bind ?_ (fun _ => ?_)
  ·intro y0 y1 y2 y3 y4 y5 y6
   unfold hindsightlaw02_CellSums.j2
   repeat' first
   | (with_reducible exact ih0 _ _ _ _ _ _ _)
   | (with_reducible exact ih1 _ _ _ _ _ _ _)
   | (with_reducible exact ih2 _ _ _ _ _ _ _)
   | (with_reducible exact ih3 _ _ _ _ _ _ _)
   | (with_reducible exact ih4 _ _ _ _)
   | (with_reducible exact cell_Add.mono _ _ _ _ _ _ _)
   | (with_reducible exact cell_Div.mono _ _ _ _ _ _ _)
   | (with_reducible exact cell_Mod.mono _ _ _ _ _ _ _)
   | (with_reducible exact cell_Mul.mono _ _ _ _ _ _ _)
   | (with_reducible exact cell_Neg.mono _ _ _ _)
   | (with_reducible exact cell_Sub.mono _ _ _ _ _ _ _)
   | (with_reducible exact hindsightlaw02_alive.mono _)
   | (with_reducible exact hindsightref02_Add.mono _ _ _ _ _ _ _)
   | (with_reducible exact hindsightref02_Div.mono _ _ _ _ _ _ _ _)
   | (with_reducible exact hindsightref02_Mul.mono _ _ _ _ _ _ _)
   | (with_reducible exact hindsightref02_Sub.mono _ _ _ _ _ _ _)
   | (with_reducible exact LeO.refl _)
   | (with_reducible exact LeO.none _)
   | (with_reducible refine LeO.ite ?_ ?_)
   | (with_reducible refine LeO.bind ?_ (fun _ => ?_))
   | exact ih0 _ _ _ _ _ _ _
   | exact ih1 _ _ _ _ _ _ _
   | exact ih2 _ _ _ _ _ _ _
   | exact ih3 _ _ _ _ _ _ _
   | exact ih4 _ _ _ _
   | exact cell_Add.mono _ _ _ _ _ _ _
   | exact cell_Div.mono _ _ _ _ _ _ _
   | exact cell_Mod.mono _ _ _ _ _ _ _
   | exact cell_Mul.mono _ _ _ _ _ _ _
   | exact cell_Neg.mono _ _ _ _
   | exact cell_Sub.mono _ _ _ _ _ _ _
   | exact hindsightlaw02_alive.mono _
   | exact hindsightref02_Add.mono _ _ _ _ _ _ _
   | exact hindsightref02_Div.mono _ _ _ _ _ _ _ _
   | exact hindsightref02_Mul.mono _ _ _ _ _ _ _
   | exact hindsightref02_Sub.mono _ _ _ _ _ _ _
   | exact LeO.none _
   | refine LeO.ite ?_ ?_
   | refine LeO.bind ?_ (fun _ => ?_)
  ·intro y0 y1 y2 y3 y4 y5 y6
   unfold hindsightlaw02_CellSums.j3
   repeat' first
   | (with_reducible exact ih0 _ _ _ _ _ _ _)
   | (with_reducible exact ih1 _ _ _ _ _ _ _)
   | (with_reducible exact ih2 _ _ _ _ _ _ _)
   | (with_reducible exact ih3 _ _ _ _ _ _ _)
   | (with_reducible exact ih4 _ _ _ _)
   | (with_reducible exact cell_Add.mono _ _ _ _ _ _ _)
   | (with_reducible exact cell_Div.mono _ _ _ _ _ _ _)
   | (with_reducible exact cell_Mod.mono _ _ _ _ _ _ _)
   | (with_reducible exact cell_Mul.mono _ _ _ _ _ _ _)
   | (with_reducible exact cell_Neg.mono _ _ _ _)
   | (with_reducible exact cell_Sub.mono _ _ _ _ _ _ _)
   | (with_reducible exact hindsightlaw02_alive.mono _)
   | (with_reducible exact hindsightref02_Add.mono _ _ _ _ _ _ _)
   | (with_reducible exact hindsightref02_Div.mono _ _ _ _ _ _ _ _)
   | (with_reducible exact hindsightref02_Mul.mono _ _ _ _ _ _ _)
   | (with_reducible exact hindsightref02_Sub.mono _ _ _ _ _ _ _)
   | (with_reducible exact LeO.refl _)
   | (with_reducible exact LeO.none _)
   | (with_reducible refine LeO.ite ?_ ?_)
   | (with_reducible refine LeO.bind ?_ (fun _ => ?_))
   | exact ih0 _ _ _ _ _ _ _
   | exact ih1 _ _ _ _ _ _ _
   | exact ih2 _ _ _ _ _ _ _
   | exact ih3 _ _ _ _ _ _ _
   | exact ih4 _ _ _ _
   | exact cell_Add.mono _ _ _ _ _ _ _
   | exact cell_Div.mono _ _ _ _ _ _ _
   | exact cell_Mod.mono _ _ _ _ _ _ _
   | exact cell_Mul.mono _ _ _ _ _ _ _
   | exact cell_Neg.mono _ _ _ _
   | exact cell_Sub.mono _ _ _ _ _ _ _
   | exact hindsightlaw02_alive.mono _
   | exact hindsightref02_Add.mono _ _ _ _ _ _ _
   | exact hindsightref02_Div.mono _ _ _ _ _ _ _ _
   | exact hindsightref02_Mul.mono _ _ _ _ _ _ _
   | exact hindsightref02_Sub.mono _ _ _ _ _ _ _
   | exact LeO.none _
   | refine LeO.ite ?_ ?_
   | refine LeO.bind ?_ (fun _ => ?_)
  ·intro y0 y1 y2 y3
   unfold hindsightlaw02_CellSums.j4
   repeat' first
   | (with_reducible exact ih0 _ _ _ _ _ _ _)
   | (with_reducible exact ih1 _ _ _ _ _ _ _)
   | (with_reducible exact ih2 _ _ _ _ _ _ _)
   | (with_reducible exact ih3 _ _ _ _ _ _ _)
   | (with_reducible exact ih4 _ _ _ _)
   | (with_reducible exact cell_Add.mono _ _ _ _ _ _ _)
   | (with_reducible exact cell_Div.mono _ _ _ _ _ _ _)
   | (with_reducible exact cell_Mod.mono _ _ _ _ _ _ _)
   | (with_reducible exact cell_Mul.mono _ _ _ _ _ _ _)
   | (with_reducible exact cell_Neg.mono _ _ _ _)
   | (with_reducible exact cell_Sub.mono _ _ _ _ _ _ _)
   | (with_reducible exact hindsightlaw02_alive.mono _)
   | (with_reducible exact hindsightref02_Add.mono _ _ _ _ _ _ _)
   | (with_reducible exact hindsightref02_Div.mono _ _ _ _ _ _ _ _)
   | (with_reducible exact hindsightref02_Mul.mono _ _ _ _ _ _ _)
   | (with_reducible exact hindsightref02_Sub.mono _ _ _ _ _ _ _)
   | (with_reducible exact LeO.refl _)
   | (with_reducible exact LeO.none _)
   | (with_reducible refine LeO.ite ?_ ?_)
   | (with_reducible refine LeO.bind ?_ (fun _ => ?_))
   | exact ih0 _ _ _ _ _ _ _
   | exact ih1 _ _ _ _ _ _ _
   | exact ih2 _ _ _ _ _ _ _
   | exact ih3 _ _ _ _ _ _ _
   | exact ih4 _ _ _ _
   | exact cell_Add.mono _ _ _ _ _ _ _
   | exact cell_Div.mono _ _ _ _ _ _ _
   | exact cell_Mod.mono _ _ _ _ _ _ _
   | exact cell_Mul.mono _ _ _ _ _ _ _
   | exact cell_Neg.mono _ _ _ _
   | exact cell_Sub.mono _ _ _ _ _ _ _
   | exact hindsightlaw02_alive.mono _
   | exact hindsightref02_Add.mono _ _ _ _ _ _ _
   | exact hindsightref02_Div.mono _ _ _ _ _ _ _ _
   | exact hindsightref02_Mul.mono _ _ _ _ _ _ _
   | exact hindsightref02_Sub.mono _ _ _ _ _ _ _
   | exact LeO.none _
   | refine LeO.ite ?_ ?_
   | refine LeO.bind ?_ (fun _ => ?_)
theorem hindsightlaw02_CellSums.mono : ∀ a0 a1 a2 a3 a4 a5 k, LeO (hindsightlaw02_CellSums.f k a0 a1 a2 a3 a4 a5) (hindsightlaw02_CellSums.f (k + 1) a0 a1 a2 a3 a4 a5) := by
 intro a0 a1 a2 a3 a4 a5 k
 obtain ⟨ih0, ih1, ih2, ih3, ih4⟩ := hindsightlaw02_CellSums.mono_l k
 unfold hindsightlaw02_CellSums.f
 repeat' first
   | (with_reducible exact ih0 _ _ _ _ _ _ _)
   | (with_reducible exact ih1 _ _ _ _ _ _ _)
   | (with_reducible exact ih2 _ _ _ _ _ _ _)
   | (with_reducible exact ih3 _ _ _ _ _ _ _)
   | (with_reducible exact ih4 _ _ _ _)
   | (with_reducible exact cell_Add.mono _ _ _ _ _ _ _)
   | (with_reducible exact cell_Div.mono _ _ _ _ _ _ _)
   | (with_reducible exact cell_Mod.mono _ _ _ _ _ _ _)
   | (with_reducible exact cell_Mul.mono _ _ _ _ _ _ _)
   | (with_reducible exact cell_Neg.mono _ _ _ _)
   | (with_reducible exact cell_Sub.mono _ _ _ _ _ _ _)
   | (with_reducible exact hindsightlaw02_alive.mono _)
   | (with_reducible exact hindsightref02_Add.mono _ _ _ _ _ _ _)
   | (with_reducible exact hindsightref02_Div.mono _ _ _ _ _ _ _ _)
   | (with_reducible exact hindsightref02_Mul.mono _ _ _ _ _ _ _)
   | (with_reducible exact hindsightref02_Sub.mono _ _ _ _ _ _ _)
   | (with_reducible exact LeO.refl _)
   | (with_reducible exact LeO.none _)
   | (with_reducible refine LeO.ite ?_ ?_)
   | (with_reducible refine LeO.bind ?_ (fun _ => ?_))
   | exact ih0 _ _ _ _ _ _ _
   | exact ih1 _ _ _ _ _ _ _
   | exact ih2 _ _ _ _ _ _ _
   | exact ih3 _ _ _ _ _ _ _
   | exact ih4 _ _ _ _
   | exact cell_Add.mono _ _ _ _ _ _ _
   | exact cell_Div.mono _ _ _ _ _ _ _
   | exact cell_Mod.mono _ _ _ _ _ _ _
   | exact cell_Mul.mono _ _ _ _ _ _ _
   | exact cell_Neg.mono _ _ _ _
   | exact cell_Sub.mono _ _ _ _ _ _ _
   | exact hindsightlaw02_alive.mono _
   | exact hindsightref02_Add.mono _ _ _ _ _ _ _
   | exact hindsightref02_Div.mono _ _ _ _ _ _ _ _
   | exact hindsightref02_Mul.mono _ _ _ _ _ _ _
   | exact hindsightref02_Sub.mono _ _ _ _ _ _ _
   | exact LeO.none _
   | refine LeO.ite ?_ ?_
   | refine LeO.bind ?_ (fun _ => ?_)
def hindsightlaw02_CellSums.T24 : Bool × List (List Nat × List Nat) := (true, [([], []), ([], []), ([0, 1, 0], [0, 1]), ([2], [2]), ([3], [3]), ([3], [3]), ([4, 2, 0, 1, 2, 3, 4], [4]), ([5, 6, 0, 1, 2, 3, 4, 5, 6], [5])])
def hindsightlaw02_CellSums.B24 : List Nat := [0, 0, 3, 7, 15, 15, 31, 127]
theorem hindsightlaw02_CellSums.tab24 : rtab .any (opsOf Try.f11 24) = hindsightlaw02_CellSums.T24 := by kernel_rfl
theorem hindsightlaw02_CellSums.bits24 : waitsOk hindsightlaw02_CellSums.T24.2 hindsightlaw02_CellSums.B24 = true := by kernel_rfl
set_option maxHeartbeats 8000000 in
set_option maxRecDepth 100000 in
theorem hindsightlaw02_CellSums.calls (k : Nat) (a0_0 : Int) (a0_1 : Int) (a0_2 : ByteArray) (a1_0 : Int) (a1_1 : Int) (a1_2 : ByteArray) (r : Bool) (w : World) (h : hindsightlaw02_CellSums.f k a0_0 a0_1 a0_2 a1_0 a1_1 a1_2 = some r) :
  Calls Try.prog 11 #[.agg #[.int .u8 a0_0, .int .i64 a0_1, .string a0_2], .agg #[.int .u8 a1_0, .int .i64 a1_1, .string a1_2]] w fun e w' => e = .returned (.bool r) ∧ Below w.heap.size w w' := by
 have hu35 := Try.underlying35
 have HB := aM11 (Below.refl w.heap.size w)
 have H : ((hindsightlaw02_great.f a0_0 a0_1 a0_2 a1_0 a1_1 a1_2).bind fun t568 => (if t568 = true then ((hindsightlaw02_alive.f k).bind fun t569 => (some t569)) else ((cell_Add.f k a0_0 a0_1 a0_2 a1_0 a1_1 a1_2).bind fun bt570 => ((hindsightref02_Add.f k a0_0 a0_1 a0_2 a1_0 a1_1 a1_2).bind fun bt575 => (if (!(bt570.1 == bt575.1) || (!(bt570.2.1 == bt575.2.1) || (!(bt570.2.2.1.toList == bt575.2.2.1.toList)))) = true then (hindsightlaw02_CellSums.j0 k true a0_0 a0_1 a0_2 a1_0 a1_1 a1_2) else (hindsightlaw02_CellSums.j0 k (bt570.2.2.2 != bt575.2.2.2) a0_0 a0_1 a0_2 a1_0 a1_1 a1_2)))))) = some r := h
 clear h
 replace H := Option.bind_eq_some_iff.mp H
 obtain ⟨t568, A30, H⟩ := H
 replace H : (if t568 = true then ((hindsightlaw02_alive.f k).bind fun t569 => (some t569)) else ((cell_Add.f k a0_0 a0_1 a0_2 a1_0 a1_1 a1_2).bind fun bt570 => ((hindsightref02_Add.f k a0_0 a0_1 a0_2 a1_0 a1_1 a1_2).bind fun bt575 => (if (!(bt570.1 == bt575.1) || (!(bt570.2.1 == bt575.2.1) || (!(bt570.2.2.1.toList == bt575.2.2.1.toList)))) = true then (hindsightlaw02_CellSums.j0 k true a0_0 a0_1 a0_2 a1_0 a1_1 a1_2) else (hindsightlaw02_CellSums.j0 k (bt570.2.2.2 != bt575.2.2.2) a0_0 a0_1 a0_2 a1_0 a1_1 a1_2))))) = some r := H
 have A3 := aM11 A30
 clear A30
 by_cases c4 : t568 = true
 ·subst c4
  have H1 : ((hindsightlaw02_alive.f k).bind fun t569 => (some t569)) = some r := by rw [if_pos rfl] at H; exact H
  clear H
  have H := H1
  clear H1
  replace H := Option.bind_eq_some_iff.mp H
  obtain ⟨t569, A50, H⟩ := H
  replace H : (some t569) = some r := H
  have A5 := aM11 A50
  clear A50
  obtain rfl := Option.some.inj H
  go_enter Try.func11, Try.ntmps11
  go_wp2_with (first | ((with_reducible refine gate_dst (N := 2) rfl ?_); refine box_event ?hg (N := 2) ?hd (cs := #[.int .u8 a0_0, .int .i64 a0_1, .string a0_2]) (t := 35) ?hr ?_; (case hd => rfl); (case hg => rfl); (case hr => first | (go_simp; done) | (go_simp; rfl)); intro gb566 hg w6 hbox hb; have n0_ := aM11 (below_step (by repeat (first | (with_reducible first | exact HB.out | apply below_alloc | apply pw_below_drewN | apply below_drew1) | exact HB.out)) hb); have n1_ := aM11 (hbox); have n2_ := aM11 ((by rw [hg]; exact (below_size (by repeat (first | (with_reducible first | exact HB.out | apply below_alloc | apply pw_below_drewN | apply below_drew1) | exact HB.out))) : w.heap.size ≤ gb566)); have n3_ := aM11 ((by rw [hg]; exact (below_size (by repeat (first | (with_reducible first | exact HB.out | apply below_alloc | apply pw_below_drewN | apply below_drew1) | exact HB.out))) : w.heap.size ≤ gb566)); clear HB; have HB := n0_; have BK566 := n1_; have GW566 := n2_; have GE566 := n3_; clear n0_ n1_ n2_ n3_; clear hb hbox hg) | ((with_reducible refine gate_dst (N := 3) rfl ?_); refine box_event ?hg (N := 3) ?hd (cs := #[.int .u8 a1_0, .int .i64 a1_1, .string a1_2]) (t := 35) ?hr ?_; (case hd => rfl); (case hg => rfl); (case hr => first | (go_simp; done) | (go_simp; rfl)); intro gb567 hg w7 hbox hb; have n0_ := aM11 (bB11 (g := gb566) (o := .cells #[.int .u8 a0_0, .int .i64 a0_1, .string a0_2] 35 (0, 0)) (by (with_reducible repeat (first | refine bN11 ?_ _ | refine bD11 ?_ | refine bA11 ?_ _)); exact BK566.out) hb); have n1_ := aM11 (below_step (by repeat (first | (with_reducible first | exact HB.out | apply below_alloc | apply pw_below_drewN | apply below_drew1 | refine bS11 ?_ GE566.out) | exact HB.out)) hb); have n2_ := aM11 (hbox); have n3_ := aM11 ((by rw [hg]; exact (below_size (by repeat (first | (with_reducible first | exact HB.out | apply below_alloc | apply pw_below_drewN | apply below_drew1 | refine bS11 ?_ GE566.out) | exact HB.out))) : w.heap.size ≤ gb567)); have n4_ := aM11 ((by rw [hg]; exact (below_size (by repeat (first | (with_reducible first | exact HB.out | apply below_alloc | apply pw_below_drewN | apply below_drew1 | refine bS11 ?_ GE566.out) | exact HB.out))) : w.heap.size ≤ gb567)); have n5_ := aM11 ((by rw [hg]; exact Nat.ne_of_lt (blk_lt (g := gb566) (o := .cells #[.int .u8 a0_0, .int .i64 a0_1, .string a0_2] 35 (0, 0)) (by (with_reducible repeat (first | refine bN11 ?_ _ | refine bD11 ?_ | refine bA11 ?_ _)); exact BK566.out)) : gb566 ≠ gb567)); have n6_ := aM11 ((by rw [hg]; exact Nat.ne_of_gt (blk_lt (g := gb566) (o := .cells #[.int .u8 a0_0, .int .i64 a0_1, .string a0_2] 35 (0, 0)) (by (with_reducible repeat (first | refine bN11 ?_ _ | refine bD11 ?_ | refine bA11 ?_ _)); exact BK566.out)) : gb567 ≠ gb566)); clear BK566; clear HB; have BK566 := n0_; have HB := n1_; have BK567 := n2_; have GW567 := n3_; have GE567 := n4_; have NB566_567 := n5_; have NB567_566 := n6_; clear n0_ n1_ n2_ n3_ n4_ n5_ n6_; clear hb hbox hg; have hnb8 := NB566_567.out; have hnc8 := NB567_566.out; have hcz9_0 : w7.cell? ⟨gb566, 0, none⟩ = some (.int .u8 a0_0) := (blk_cell BK566.out 0).trans rfl; have hcz9_1 : w7.cell? ⟨gb566, 1, none⟩ = some (.int .i64 a0_1) := (blk_cell BK566.out 1).trans rfl; have hcz9_2 : w7.cell? ⟨gb566, 2, none⟩ = some (.string a0_2) := (blk_cell BK566.out 2).trans rfl; have hfz9_0 := blk_frozen BK566.out 0; have hfz9_1 := blk_frozen BK566.out 1; have hfz9_2 := blk_frozen BK566.out 2; have hcz10_0 : w7.cell? ⟨gb567, 0, none⟩ = some (.int .u8 a1_0) := (blk_cell BK567.out 0).trans rfl; have hcz10_1 : w7.cell? ⟨gb567, 1, none⟩ = some (.int .i64 a1_1) := (blk_cell BK567.out 1).trans rfl; have hcz10_2 : w7.cell? ⟨gb567, 2, none⟩ = some (.string a1_2) := (blk_cell BK567.out 2).trans rfl; have hfz10_0 := blk_frozen BK567.out 0; have hfz10_1 := blk_frozen BK567.out 1; have hfz10_2 := blk_frozen BK567.out 2) | ((with_reducible refine gate_callee (f := 23) rfl ?_); refine goesL_ (some 11) rfl rfl Try.func23 (by kernel_rfl) rfl #[.agg #[.int .u8 a0_0, .int .i64 a0_1, .string a0_2], .agg #[.int .u8 a1_0, .int .i64 a1_1, .string a1_2]] rfl (by (try simp only [List.map_toArray, List.map_cons, List.map_nil]); first | done | rfl | (simp only [List.length_drop, List.length_take]; rfl)) ?_; (with_reducible refine (hindsightlaw02_great.calls a0_0 a0_1 a0_2 a1_0 a1_1 a1_2 true _ A3.out).mono ?_); rintro e w11 ⟨rfl, hb⟩; refine ⟨_, rfl, ?_⟩; have n0_ := aM11 (bB11 (g := gb566) (o := .cells #[.int .u8 a0_0, .int .i64 a0_1, .string a0_2] 35 (0, 0)) (by (with_reducible repeat (first | refine bN11 ?_ _ | refine bD11 ?_ | refine bA11 ?_ _)); exact BK566.out) hb); have n1_ := aM11 (bB11 (g := gb567) (o := .cells #[.int .u8 a1_0, .int .i64 a1_1, .string a1_2] 35 (0, 0)) (by (with_reducible repeat (first | refine bN11 ?_ _ | refine bD11 ?_ | refine bA11 ?_ _)); exact BK567.out) hb); have n2_ := aM11 (below_step (by repeat (first | (with_reducible first | exact HB.out | apply below_alloc | apply pw_below_drewN | apply below_drew1 | refine bS11 ?_ GE566.out | refine bS11 ?_ GE567.out) | exact HB.out)) hb); clear BK566; clear BK567; clear HB; have BK566 := n0_; have BK567 := n1_; have HB := n2_; clear n0_ n1_ n2_; (try clear hb); (try clear hb2); (try clear hk); (try clear hi)) | ((with_reducible refine gate_callee (f := 24) rfl ?_); refine goesL_ (some 12) rfl rfl Try.func24 (by kernel_rfl) rfl #[] rfl (by (try simp only [List.map_toArray, List.map_cons, List.map_nil]); first | done | rfl | (simp only [List.length_drop, List.length_take]; rfl)) ?_; (with_reducible refine (hindsightlaw02_alive.calls k  t569 _ A5.out).mono ?_); rintro e w12 ⟨rfl, hb⟩; refine ⟨_, rfl, ?_⟩; have n0_ := aM11 (bB11 (g := gb566) (o := .cells #[.int .u8 a0_0, .int .i64 a0_1, .string a0_2] 35 (0, 0)) (by (with_reducible repeat (first | refine bN11 ?_ _ | refine bD11 ?_ | refine bA11 ?_ _)); exact BK566.out) hb); have n1_ := aM11 (bB11 (g := gb567) (o := .cells #[.int .u8 a1_0, .int .i64 a1_1, .string a1_2] 35 (0, 0)) (by (with_reducible repeat (first | refine bN11 ?_ _ | refine bD11 ?_ | refine bA11 ?_ _)); exact BK567.out) hb); have n2_ := aM11 (below_step (by repeat (first | (with_reducible first | exact HB.out | apply below_alloc | apply pw_below_drewN | apply below_drew1 | refine bS11 ?_ GE566.out | refine bS11 ?_ GE567.out) | exact HB.out)) hb); clear BK566; clear BK567; clear HB; have BK566 := n0_; have BK567 := n1_; have HB := n2_; clear n0_ n1_ n2_; (try clear hb); (try clear hb2); (try clear hk); (try clear hi)))
  go_ret
  exact ⟨by first | rfl | (simp [errW_none, errW_some] <;> rfl) | (simp [*, errW_none, errW_some] <;> rfl), by repeat (first | (with_reducible first | exact HB.out | apply below_alloc | apply pw_below_drewN | apply below_drew1 | refine bS11 ?_ GE566.out | refine bS11 ?_ GE567.out) | exact HB.out)⟩
 ·replace c4 := Bool.eq_false_iff.mpr c4
  subst c4
  have H1 : ((cell_Add.f k a0_0 a0_1 a0_2 a1_0 a1_1 a1_2).bind fun bt570 => ((hindsightref02_Add.f k a0_0 a0_1 a0_2 a1_0 a1_1 a1_2).bind fun bt575 => (if (!(bt570.1 == bt575.1) || (!(bt570.2.1 == bt575.2.1) || (!(bt570.2.2.1.toList == bt575.2.2.1.toList)))) = true then (hindsightlaw02_CellSums.j0 k true a0_0 a0_1 a0_2 a1_0 a1_1 a1_2) else (hindsightlaw02_CellSums.j0 k (bt570.2.2.2 != bt575.2.2.2) a0_0 a0_1 a0_2 a1_0 a1_1 a1_2)))) = some r := by rw [if_neg (show ¬ (false = true) by decide)] at H; exact H
  clear H
  have H := H1
  clear H1
  replace H := Option.bind_eq_some_iff.mp H
  obtain ⟨⟨t570, t571, t572, t573⟩, A130, H⟩ := H
  replace H : ((hindsightref02_Add.f k a0_0 a0_1 a0_2 a1_0 a1_1 a1_2).bind fun bt575 => (if (!(t570 == bt575.1) || (!(t571 == bt575.2.1) || (!(t572.toList == bt575.2.2.1.toList)))) = true then (hindsightlaw02_CellSums.j0 k true a0_0 a0_1 a0_2 a1_0 a1_1 a1_2) else (hindsightlaw02_CellSums.j0 k (t573 != bt575.2.2.2) a0_0 a0_1 a0_2 a1_0 a1_1 a1_2))) = some r := H
  have A13 := aM11 A130
  clear A130
  replace H := Option.bind_eq_some_iff.mp H
  obtain ⟨⟨t575, t576, t577, t578⟩, A140, H⟩ := H
  replace H : (if (!(t570 == t575) || (!(t571 == t576) || (!(t572.toList == t577.toList)))) = true then (hindsightlaw02_CellSums.j0 k true a0_0 a0_1 a0_2 a1_0 a1_1 a1_2) else (hindsightlaw02_CellSums.j0 k (t573 != t578) a0_0 a0_1 a0_2 a1_0 a1_1 a1_2)) = some r := H
  have A14 := aM11 A140
  clear A140
  have HC15 := aM11 H
  clear H
  go_enter Try.func11, Try.ntmps11
  go_upto_region 5 with (first | ((with_reducible refine gate_dst (N := 2) rfl ?_); refine box_event ?hg (N := 2) ?hd (cs := #[.int .u8 a0_0, .int .i64 a0_1, .string a0_2]) (t := 35) ?hr ?_; (case hd => rfl); (case hg => rfl); (case hr => first | (go_simp; done) | (go_simp; rfl)); intro gb566 hg w16 hbox hb; have n0_ := aM11 (below_step (by repeat (first | (with_reducible first | exact HB.out | apply below_alloc | apply pw_below_drewN | apply below_drew1) | exact HB.out)) hb); have n1_ := aM11 (hbox); have n2_ := aM11 ((by rw [hg]; exact (below_size (by repeat (first | (with_reducible first | exact HB.out | apply below_alloc | apply pw_below_drewN | apply below_drew1) | exact HB.out))) : w.heap.size ≤ gb566)); have n3_ := aM11 ((by rw [hg]; exact (below_size (by repeat (first | (with_reducible first | exact HB.out | apply below_alloc | apply pw_below_drewN | apply below_drew1) | exact HB.out))) : w.heap.size ≤ gb566)); clear HB; have HB := n0_; have BK566 := n1_; have GW566 := n2_; have GE566 := n3_; clear n0_ n1_ n2_ n3_; clear hb hbox hg) | ((with_reducible refine gate_dst (N := 3) rfl ?_); refine box_event ?hg (N := 3) ?hd (cs := #[.int .u8 a1_0, .int .i64 a1_1, .string a1_2]) (t := 35) ?hr ?_; (case hd => rfl); (case hg => rfl); (case hr => first | (go_simp; done) | (go_simp; rfl)); intro gb567 hg w17 hbox hb; have n0_ := aM11 (bB11 (g := gb566) (o := .cells #[.int .u8 a0_0, .int .i64 a0_1, .string a0_2] 35 (0, 0)) (by (with_reducible repeat (first | refine bN11 ?_ _ | refine bD11 ?_ | refine bA11 ?_ _)); exact BK566.out) hb); have n1_ := aM11 (below_step (by repeat (first | (with_reducible first | exact HB.out | apply below_alloc | apply pw_below_drewN | apply below_drew1 | refine bS11 ?_ GE566.out) | exact HB.out)) hb); have n2_ := aM11 (hbox); have n3_ := aM11 ((by rw [hg]; exact (below_size (by repeat (first | (with_reducible first | exact HB.out | apply below_alloc | apply pw_below_drewN | apply below_drew1 | refine bS11 ?_ GE566.out) | exact HB.out))) : w.heap.size ≤ gb567)); have n4_ := aM11 ((by rw [hg]; exact (below_size (by repeat (first | (with_reducible first | exact HB.out | apply below_alloc | apply pw_below_drewN | apply below_drew1 | refine bS11 ?_ GE566.out) | exact HB.out))) : w.heap.size ≤ gb567)); have n5_ := aM11 ((by rw [hg]; exact Nat.ne_of_lt (blk_lt (g := gb566) (o := .cells #[.int .u8 a0_0, .int .i64 a0_1, .string a0_2] 35 (0, 0)) (by (with_reducible repeat (first | refine bN11 ?_ _ | refine bD11 ?_ | refine bA11 ?_ _)); exact BK566.out)) : gb566 ≠ gb567)); have n6_ := aM11 ((by rw [hg]; exact Nat.ne_of_gt (blk_lt (g := gb566) (o := .cells #[.int .u8 a0_0, .int .i64 a0_1, .string a0_2] 35 (0, 0)) (by (with_reducible repeat (first | refine bN11 ?_ _ | refine bD11 ?_ | refine bA11 ?_ _)); exact BK566.out)) : gb567 ≠ gb566)); clear BK566; clear HB; have BK566 := n0_; have HB := n1_; have BK567 := n2_; have GW567 := n3_; have GE567 := n4_; have NB566_567 := n5_; have NB567_566 := n6_; clear n0_ n1_ n2_ n3_ n4_ n5_ n6_; clear hb hbox hg; have hnb18 := NB566_567.out; have hnc18 := NB567_566.out; have hcz19_0 : w17.cell? ⟨gb566, 0, none⟩ = some (.int .u8 a0_0) := (blk_cell BK566.out 0).trans rfl; have hcz19_1 : w17.cell? ⟨gb566, 1, none⟩ = some (.int .i64 a0_1) := (blk_cell BK566.out 1).trans rfl; have hcz19_2 : w17.cell? ⟨gb566, 2, none⟩ = some (.string a0_2) := (blk_cell BK566.out 2).trans rfl; have hfz19_0 := blk_frozen BK566.out 0; have hfz19_1 := blk_frozen BK566.out 1; have hfz19_2 := blk_frozen BK566.out 2; have hcz20_0 : w17.cell? ⟨gb567, 0, none⟩ = some (.int .u8 a1_0) := (blk_cell BK567.out 0).trans rfl; have hcz20_1 : w17.cell? ⟨gb567, 1, none⟩ = some (.int .i64 a1_1) := (blk_cell BK567.out 1).trans rfl; have hcz20_2 : w17.cell? ⟨gb567, 2, none⟩ = some (.string a1_2) := (blk_cell BK567.out 2).trans rfl; have hfz20_0 := blk_frozen BK567.out 0; have hfz20_1 := blk_frozen BK567.out 1; have hfz20_2 := blk_frozen BK567.out 2) | ((with_reducible refine gate_callee (f := 23) rfl ?_); refine goesL_ (some 11) rfl rfl Try.func23 (by kernel_rfl) rfl #[.agg #[.int .u8 a0_0, .int .i64 a0_1, .string a0_2], .agg #[.int .u8 a1_0, .int .i64 a1_1, .string a1_2]] rfl (by (try simp only [List.map_toArray, List.map_cons, List.map_nil]); first | done | rfl | (simp only [List.length_drop, List.length_take]; rfl)) ?_; (with_reducible refine (hindsightlaw02_great.calls a0_0 a0_1 a0_2 a1_0 a1_1 a1_2 false _ A3.out).mono ?_); rintro e w21 ⟨rfl, hb⟩; refine ⟨_, rfl, ?_⟩; have n0_ := aM11 (bB11 (g := gb566) (o := .cells #[.int .u8 a0_0, .int .i64 a0_1, .string a0_2] 35 (0, 0)) (by (with_reducible repeat (first | refine bN11 ?_ _ | refine bD11 ?_ | refine bA11 ?_ _)); exact BK566.out) hb); have n1_ := aM11 (bB11 (g := gb567) (o := .cells #[.int .u8 a1_0, .int .i64 a1_1, .string a1_2] 35 (0, 0)) (by (with_reducible repeat (first | refine bN11 ?_ _ | refine bD11 ?_ | refine bA11 ?_ _)); exact BK567.out) hb); have n2_ := aM11 (below_step (by repeat (first | (with_reducible first | exact HB.out | apply below_alloc | apply pw_below_drewN | apply below_drew1 | refine bS11 ?_ GE566.out | refine bS11 ?_ GE567.out) | exact HB.out)) hb); clear BK566; clear BK567; clear HB; have BK566 := n0_; have BK567 := n1_; have HB := n2_; clear n0_ n1_ n2_; (try clear hb); (try clear hb2); (try clear hk); (try clear hi); have hcz22_0 : w21.cell? ⟨gb566, 0, none⟩ = some (.int .u8 a0_0) := (blk_cell BK566.out 0).trans rfl; have hcz22_1 : w21.cell? ⟨gb566, 1, none⟩ = some (.int .i64 a0_1) := (blk_cell BK566.out 1).trans rfl; have hcz22_2 : w21.cell? ⟨gb566, 2, none⟩ = some (.string a0_2) := (blk_cell BK566.out 2).trans rfl; have hfz22_0 := blk_frozen BK566.out 0; have hfz22_1 := blk_frozen BK566.out 1; have hfz22_2 := blk_frozen BK566.out 2; have hcz23_0 : w21.cell? ⟨gb567, 0, none⟩ = some (.int .u8 a1_0) := (blk_cell BK567.out 0).trans rfl; have hcz23_1 : w21.cell? ⟨gb567, 1, none⟩ = some (.int .i64 a1_1) := (blk_cell BK567.out 1).trans rfl; have hcz23_2 : w21.cell? ⟨gb567, 2, none⟩ = some (.string a1_2) := (blk_cell BK567.out 2).trans rfl; have hfz23_0 := blk_frozen BK567.out 0; have hfz23_1 := blk_frozen BK567.out 1; have hfz23_2 := blk_frozen BK567.out 2) | ((with_reducible refine gate_callee (f := 49) rfl ?_); refine goesL_ (some 16) rfl rfl Try.func49 (by kernel_rfl) rfl #[.agg #[.int .u8 a0_0, .int .i64 a0_1, .string a0_2], .agg #[.int .u8 a1_0, .int .i64 a1_1, .string a1_2]] rfl (by (try simp only [List.map_toArray, List.map_cons, List.map_nil]); first | done | rfl | (simp only [List.length_drop, List.length_take]; rfl)) ?_; (with_reducible refine (cell_Add.calls k a0_0 a0_1 a0_2 a1_0 a1_1 a1_2 t570 t571 t572 t573 _ A13.out).mono ?_); rintro e w24 ⟨rfl, hb⟩; refine ⟨_, rfl, ?_⟩; have n0_ := aM11 (bB11 (g := gb566) (o := .cells #[.int .u8 a0_0, .int .i64 a0_1, .string a0_2] 35 (0, 0)) (by (with_reducible repeat (first | refine bN11 ?_ _ | refine bD11 ?_ | refine bA11 ?_ _)); exact BK566.out) hb); have n1_ := aM11 (bB11 (g := gb567) (o := .cells #[.int .u8 a1_0, .int .i64 a1_1, .string a1_2] 35 (0, 0)) (by (with_reducible repeat (first | refine bN11 ?_ _ | refine bD11 ?_ | refine bA11 ?_ _)); exact BK567.out) hb); have n2_ := aM11 (below_step (by repeat (first | (with_reducible first | exact HB.out | apply below_alloc | apply pw_below_drewN | apply below_drew1 | refine bS11 ?_ GE566.out | refine bS11 ?_ GE567.out) | exact HB.out)) hb); clear BK566; clear BK567; clear HB; have BK566 := n0_; have BK567 := n1_; have HB := n2_; clear n0_ n1_ n2_; (try clear hb); (try clear hb2); (try clear hk); (try clear hi)) | ((with_reducible refine gate_dst (N := 5) rfl ?_); refine box_event ?hg (N := 5) ?hd (cs := #[.int .u8 0, .int .i64 0, .string (⟨#[]⟩ : ByteArray)]) (t := 35) ?hr ?_; (case hd => rfl); (case hg => rfl); (case hr => first | (go_simp; done) | (go_simp; rfl)); intro gb574 hg w25 hbox hb; have n0_ := aM11 (bB11 (g := gb566) (o := .cells #[.int .u8 a0_0, .int .i64 a0_1, .string a0_2] 35 (0, 0)) (by (with_reducible repeat (first | refine bN11 ?_ _ | refine bD11 ?_ | refine bA11 ?_ _)); exact BK566.out) hb); have n1_ := aM11 (bB11 (g := gb567) (o := .cells #[.int .u8 a1_0, .int .i64 a1_1, .string a1_2] 35 (0, 0)) (by (with_reducible repeat (first | refine bN11 ?_ _ | refine bD11 ?_ | refine bA11 ?_ _)); exact BK567.out) hb); have n2_ := aM11 (below_step (by repeat (first | (with_reducible first | exact HB.out | apply below_alloc | apply pw_below_drewN | apply below_drew1 | refine bS11 ?_ GE566.out | refine bS11 ?_ GE567.out) | exact HB.out)) hb); have n3_ := aM11 (hbox); have n4_ := aM11 ((by rw [hg]; exact (below_size (by repeat (first | (with_reducible first | exact HB.out | apply below_alloc | apply pw_below_drewN | apply below_drew1 | refine bS11 ?_ GE566.out | refine bS11 ?_ GE567.out) | exact HB.out))) : w.heap.size ≤ gb574)); have n5_ := aM11 ((by rw [hg]; exact (below_size (by repeat (first | (with_reducible first | exact HB.out | apply below_alloc | apply pw_below_drewN | apply below_drew1 | refine bS11 ?_ GE566.out | refine bS11 ?_ GE567.out) | exact HB.out))) : w.heap.size ≤ gb574)); have n6_ := aM11 ((by rw [hg]; exact Nat.ne_of_lt (blk_lt (g := gb566) (o := .cells #[.int .u8 a0_0, .int .i64 a0_1, .string a0_2] 35 (0, 0)) (by (with_reducible repeat (first | refine bN11 ?_ _ | refine bD11 ?_ | refine bA11 ?_ _)); exact BK566.out)) : gb566 ≠ gb574)); have n7_ := aM11 ((by rw [hg]; exact Nat.ne_of_gt (blk_lt (g := gb566) (o := .cells #[.int .u8 a0_0, .int .i64 a0_1, .string a0_2] 35 (0, 0)) (by (with_reducible repeat (first | refine bN11 ?_ _ | refine bD11 ?_ | refine bA11 ?_ _)); exact BK566.out)) : gb574 ≠ gb566)); have n8_ := aM11 ((by rw [hg]; exact Nat.ne_of_lt (blk_lt (g := gb567) (o := .cells #[.int .u8 a1_0, .int .i64 a1_1, .string a1_2] 35 (0, 0)) (by (with_reducible repeat (first | refine bN11 ?_ _ | refine bD11 ?_ | refine bA11 ?_ _)); exact BK567.out)) : gb567 ≠ gb574)); have n9_ := aM11 ((by rw [hg]; exact Nat.ne_of_gt (blk_lt (g := gb567) (o := .cells #[.int .u8 a1_0, .int .i64 a1_1, .string a1_2] 35 (0, 0)) (by (with_reducible repeat (first | refine bN11 ?_ _ | refine bD11 ?_ | refine bA11 ?_ _)); exact BK567.out)) : gb574 ≠ gb567)); clear BK566; clear BK567; clear HB; have BK566 := n0_; have BK567 := n1_; have HB := n2_; have BK574 := n3_; have GW574 := n4_; have GE574 := n5_; have NB566_574 := n6_; have NB574_566 := n7_; have NB567_574 := n8_; have NB574_567 := n9_; clear n0_ n1_ n2_ n3_ n4_ n5_ n6_ n7_ n8_ n9_; clear hb hbox hg; have hnb26 := NB574_566.out; have hnc26 := NB566_574.out; have hnb27 := NB574_567.out; have hnc27 := NB567_574.out; have hcz28_0 : w25.cell? ⟨gb574, 0, none⟩ = some (.int .u8 0) := (blk_cell BK574.out 0).trans rfl; have hcz28_1 : w25.cell? ⟨gb574, 1, none⟩ = some (.int .i64 0) := (blk_cell BK574.out 1).trans rfl; have hcz28_2 : w25.cell? ⟨gb574, 2, none⟩ = some (.string (⟨#[]⟩ : ByteArray)) := (blk_cell BK574.out 2).trans rfl; have hfz28_0 := blk_frozen BK574.out 0; have hfz28_1 := blk_frozen BK574.out 1; have hfz28_2 := blk_frozen BK574.out 2; have hcz29_0 : w25.cell? ⟨gb566, 0, none⟩ = some (.int .u8 a0_0) := (blk_cell BK566.out 0).trans rfl; have hcz29_1 : w25.cell? ⟨gb566, 1, none⟩ = some (.int .i64 a0_1) := (blk_cell BK566.out 1).trans rfl; have hcz29_2 : w25.cell? ⟨gb566, 2, none⟩ = some (.string a0_2) := (blk_cell BK566.out 2).trans rfl; have hfz29_0 := blk_frozen BK566.out 0; have hfz29_1 := blk_frozen BK566.out 1; have hfz29_2 := blk_frozen BK566.out 2; have hcz30_0 : w25.cell? ⟨gb567, 0, none⟩ = some (.int .u8 a1_0) := (blk_cell BK567.out 0).trans rfl; have hcz30_1 : w25.cell? ⟨gb567, 1, none⟩ = some (.int .i64 a1_1) := (blk_cell BK567.out 1).trans rfl; have hcz30_2 : w25.cell? ⟨gb567, 2, none⟩ = some (.string a1_2) := (blk_cell BK567.out 2).trans rfl; have hfz30_0 := blk_frozen BK567.out 0; have hfz30_1 := blk_frozen BK567.out 1; have hfz30_2 := blk_frozen BK567.out 2) | ((with_reducible refine gate_callee (f := 50) rfl ?_); refine goesL_ (some 22) rfl rfl Try.func50 (by kernel_rfl) rfl #[.agg #[.int .u8 a0_0, .int .i64 a0_1, .string a0_2], .agg #[.int .u8 a1_0, .int .i64 a1_1, .string a1_2]] rfl (by (try simp only [List.map_toArray, List.map_cons, List.map_nil]); first | done | rfl | (simp only [List.length_drop, List.length_take]; rfl)) ?_; (with_reducible refine (hindsightref02_Add.calls k a0_0 a0_1 a0_2 a1_0 a1_1 a1_2 t575 t576 t577 t578 _ A14.out).mono ?_); rintro e w31 ⟨rfl, hb⟩; refine ⟨_, rfl, ?_⟩; have n0_ := aM11 (bB11 (g := gb566) (o := .cells #[.int .u8 a0_0, .int .i64 a0_1, .string a0_2] 35 (0, 0)) (by (with_reducible repeat (first | refine bN11 ?_ _ | refine bD11 ?_ | refine bA11 ?_ _ | refine bF11 ?_ NB566_574.out _)); exact BK566.out) hb); have n1_ := aM11 (bB11 (g := gb567) (o := .cells #[.int .u8 a1_0, .int .i64 a1_1, .string a1_2] 35 (0, 0)) (by (with_reducible repeat (first | refine bN11 ?_ _ | refine bD11 ?_ | refine bA11 ?_ _ | refine bF11 ?_ NB567_574.out _)); exact BK567.out) hb); have n2_ := aM11 (bB11 (g := gb574) (o := .cells #[.int .u8 t570, .int .i64 t571, .string t572] 35 (0, 0)) (by (with_reducible repeat (first | refine bN11 ?_ _ | refine bD11 ?_ | refine bA11 ?_ _)); refine blk_put (cs := #[.int .u8 t570, .int .i64 t571, .string (⟨#[]⟩ : ByteArray)]) ?_ 2 _ rfl; (with_reducible repeat (first | refine bN11 ?_ _ | refine bD11 ?_ | refine bA11 ?_ _)); refine blk_put (cs := #[.int .u8 t570, .int .i64 0, .string (⟨#[]⟩ : ByteArray)]) ?_ 1 _ rfl; (with_reducible repeat (first | refine bN11 ?_ _ | refine bD11 ?_ | refine bA11 ?_ _)); refine blk_put (cs := #[.int .u8 0, .int .i64 0, .string (⟨#[]⟩ : ByteArray)]) ?_ 0 _ rfl; (with_reducible repeat (first | refine bN11 ?_ _ | refine bD11 ?_ | refine bA11 ?_ _)); exact BK574.out) hb); have n3_ := aM11 (below_step (by repeat (first | (with_reducible first | exact HB.out | apply below_alloc | apply pw_below_drewN | apply below_drew1 | refine bS11 ?_ GE566.out | refine bS11 ?_ GE567.out | refine bS11 ?_ GE574.out) | exact HB.out)) hb); clear BK566; clear BK567; clear BK574; clear HB; have BK566 := n0_; have BK567 := n1_; have BK574 := n2_; have HB := n3_; clear n0_ n1_ n2_ n3_; (try clear hb); (try clear hb2); (try clear hk); (try clear hi)) | ((with_reducible refine gate_dst (N := 7) rfl ?_); refine box_event ?hg (N := 7) ?hd (cs := #[.int .u8 0, .int .i64 0, .string (⟨#[]⟩ : ByteArray)]) (t := 35) ?hr ?_; (case hd => rfl); (case hg => rfl); (case hr => first | (go_simp; done) | (go_simp; rfl)); intro gb579 hg w32 hbox hb; have n0_ := aM11 (bB11 (g := gb566) (o := .cells #[.int .u8 a0_0, .int .i64 a0_1, .string a0_2] 35 (0, 0)) (by (with_reducible repeat (first | refine bN11 ?_ _ | refine bD11 ?_ | refine bA11 ?_ _)); exact BK566.out) hb); have n1_ := aM11 (bB11 (g := gb567) (o := .cells #[.int .u8 a1_0, .int .i64 a1_1, .string a1_2] 35 (0, 0)) (by (with_reducible repeat (first | refine bN11 ?_ _ | refine bD11 ?_ | refine bA11 ?_ _)); exact BK567.out) hb); have n2_ := aM11 (bB11 (g := gb574) (o := .cells #[.int .u8 t570, .int .i64 t571, .string t572] 35 (0, 0)) (by (with_reducible repeat (first | refine bN11 ?_ _ | refine bD11 ?_ | refine bA11 ?_ _)); exact BK574.out) hb); have n3_ := aM11 (below_step (by repeat (first | (with_reducible first | exact HB.out | apply below_alloc | apply pw_below_drewN | apply below_drew1 | refine bS11 ?_ GE566.out | refine bS11 ?_ GE567.out | refine bS11 ?_ GE574.out) | exact HB.out)) hb); have n4_ := aM11 (hbox); have n5_ := aM11 ((by rw [hg]; exact (below_size (by repeat (first | (with_reducible first | exact HB.out | apply below_alloc | apply pw_below_drewN | apply below_drew1 | refine bS11 ?_ GE566.out | refine bS11 ?_ GE567.out | refine bS11 ?_ GE574.out) | exact HB.out))) : w.heap.size ≤ gb579)); have n6_ := aM11 ((by rw [hg]; exact (below_size (by repeat (first | (with_reducible first | exact HB.out | apply below_alloc | apply pw_below_drewN | apply below_drew1 | refine bS11 ?_ GE566.out | refine bS11 ?_ GE567.out | refine bS11 ?_ GE574.out) | exact HB.out))) : w.heap.size ≤ gb579)); have n7_ := aM11 ((by rw [hg]; exact Nat.ne_of_lt (blk_lt (g := gb566) (o := .cells #[.int .u8 a0_0, .int .i64 a0_1, .string a0_2] 35 (0, 0)) (by (with_reducible repeat (first | refine bN11 ?_ _ | refine bD11 ?_ | refine bA11 ?_ _)); exact BK566.out)) : gb566 ≠ gb579)); have n8_ := aM11 ((by rw [hg]; exact Nat.ne_of_gt (blk_lt (g := gb566) (o := .cells #[.int .u8 a0_0, .int .i64 a0_1, .string a0_2] 35 (0, 0)) (by (with_reducible repeat (first | refine bN11 ?_ _ | refine bD11 ?_ | refine bA11 ?_ _)); exact BK566.out)) : gb579 ≠ gb566)); have n9_ := aM11 ((by rw [hg]; exact Nat.ne_of_lt (blk_lt (g := gb567) (o := .cells #[.int .u8 a1_0, .int .i64 a1_1, .string a1_2] 35 (0, 0)) (by (with_reducible repeat (first | refine bN11 ?_ _ | refine bD11 ?_ | refine bA11 ?_ _)); exact BK567.out)) : gb567 ≠ gb579)); have n10_ := aM11 ((by rw [hg]; exact Nat.ne_of_gt (blk_lt (g := gb567) (o := .cells #[.int .u8 a1_0, .int .i64 a1_1, .string a1_2] 35 (0, 0)) (by (with_reducible repeat (first | refine bN11 ?_ _ | refine bD11 ?_ | refine bA11 ?_ _)); exact BK567.out)) : gb579 ≠ gb567)); have n11_ := aM11 ((by rw [hg]; exact Nat.ne_of_lt (blk_lt (g := gb574) (o := .cells #[.int .u8 t570, .int .i64 t571, .string t572] 35 (0, 0)) (by (with_reducible repeat (first | refine bN11 ?_ _ | refine bD11 ?_ | refine bA11 ?_ _)); exact BK574.out)) : gb574 ≠ gb579)); have n12_ := aM11 ((by rw [hg]; exact Nat.ne_of_gt (blk_lt (g := gb574) (o := .cells #[.int .u8 t570, .int .i64 t571, .string t572] 35 (0, 0)) (by (with_reducible repeat (first | refine bN11 ?_ _ | refine bD11 ?_ | refine bA11 ?_ _)); exact BK574.out)) : gb579 ≠ gb574)); clear BK566; clear BK567; clear BK574; clear HB; have BK566 := n0_; have BK567 := n1_; have BK574 := n2_; have HB := n3_; have BK579 := n4_; have GW579 := n5_; have GE579 := n6_; have NB566_579 := n7_; have NB579_566 := n8_; have NB567_579 := n9_; have NB579_567 := n10_; have NB574_579 := n11_; have NB579_574 := n12_; clear n0_ n1_ n2_ n3_ n4_ n5_ n6_ n7_ n8_ n9_ n10_ n11_ n12_; clear hb hbox hg; have hnb33 := NB579_566.out; have hnc33 := NB566_579.out; have hnb34 := NB579_567.out; have hnc34 := NB567_579.out; have hnb35 := NB579_574.out; have hnc35 := NB574_579.out; have hcz36_0 : w32.cell? ⟨gb579, 0, none⟩ = some (.int .u8 0) := (blk_cell BK579.out 0).trans rfl; have hcz36_1 : w32.cell? ⟨gb579, 1, none⟩ = some (.int .i64 0) := (blk_cell BK579.out 1).trans rfl; have hcz36_2 : w32.cell? ⟨gb579, 2, none⟩ = some (.string (⟨#[]⟩ : ByteArray)) := (blk_cell BK579.out 2).trans rfl; have hfz36_0 := blk_frozen BK579.out 0; have hfz36_1 := blk_frozen BK579.out 1; have hfz36_2 := blk_frozen BK579.out 2))
  (try simp only [Act.put, List.setIfInBounds_toArray, List.set_cons_zero, List.set_cons_succ])
  go_cut [32] (fun v32 wc => ∃ (kq : Nat) (x32_14 : Bool), v32 = .bool x32_14 ∧ Aside0 (hindsightlaw02_CellSums.j0 kq x32_14 a0_0 a0_1 a0_2 a1_0 a1_1 a1_2 = some r) ∧ Aside0 (kq ≤ k) ∧ Aside0 (wc.heap[gb566]? = some (.cells #[.int .u8 a0_0, .int .i64 a0_1, .string a0_2] 35 (0, 0))) ∧ Aside0 (wc.heap[gb567]? = some (.cells #[.int .u8 a1_0, .int .i64 a1_1, .string a1_2] 35 (0, 0))) ∧ Aside0 (wc.heap[gb574]? = some (.cells #[.int .u8 t570, .int .i64 t571, .string t572] 35 (0, 0))) ∧ Aside0 (wc.heap[gb579]? = some (.cells #[.int .u8 t575, .int .i64 t576, .string t577] 35 (0, 0))) ∧ Aside0 (Below w.heap.size w wc))
  case first =>
   have H := HC15.out
   clear HC15
   by_cases c37 : (!(t570 == t575) || (!(t571 == t576) || (!(t572.toList == t577.toList)))) = true
   ·rw [if_pos c37] at H
    have c37b0 : (!(t570 == t575) || (!(t571 == t576) || (!(t572.toList == t577.toList)))) = true := c37
    clear c37
    (first | rw [c37b0] | (simp only [i64_w, i32_w]; rw [c37b0]) | skip)
    have H' := aM11 H
    clear H
    have hnb38 := NB574_566.out
    have hnc38 := NB566_574.out
    have hnb39 := NB574_567.out
    have hnc39 := NB567_574.out
    have hnb40 := NB574_579.out
    have hnc40 := NB579_574.out
    have hcz41_0 : w32.cell? ⟨gb574, 0, none⟩ = some (.int .u8 t570) := (blk_cell BK574.out 0).trans rfl
    have hcz41_1 : w32.cell? ⟨gb574, 1, none⟩ = some (.int .i64 t571) := (blk_cell BK574.out 1).trans rfl
    have hcz41_2 : w32.cell? ⟨gb574, 2, none⟩ = some (.string t572) := (blk_cell BK574.out 2).trans rfl
    have hfz41_0 := blk_frozen BK574.out 0
    have hfz41_1 := blk_frozen BK574.out 1
    have hfz41_2 := blk_frozen BK574.out 2
    have hnb42 := NB579_566.out
    have hnc42 := NB566_579.out
    have hnb43 := NB579_567.out
    have hnc43 := NB567_579.out
    have hcz44_0 : w32.cell? ⟨gb579, 0, none⟩ = some (.int .u8 0) := (blk_cell BK579.out 0).trans rfl
    have hcz44_1 : w32.cell? ⟨gb579, 1, none⟩ = some (.int .i64 0) := (blk_cell BK579.out 1).trans rfl
    have hcz44_2 : w32.cell? ⟨gb579, 2, none⟩ = some (.string (⟨#[]⟩ : ByteArray)) := (blk_cell BK579.out 2).trans rfl
    have hfz44_0 := blk_frozen BK579.out 0
    have hfz44_1 := blk_frozen BK579.out 1
    have hfz44_2 := blk_frozen BK579.out 2
    go_wp2
    go_meet
    case rel => exact ⟨_, (true), (by first | rfl | (simp; done) | (simp [*]; done)), H', ⟨by first | omega | exact Nat.le_refl _⟩, ⟨by (with_reducible repeat (first | refine bN11 ?_ _ | refine bD11 ?_ | refine bA11 ?_ _ | refine bF11 ?_ NB566_579.out _)); exact BK566.out⟩, ⟨by (with_reducible repeat (first | refine bN11 ?_ _ | refine bD11 ?_ | refine bA11 ?_ _ | refine bF11 ?_ NB567_579.out _)); exact BK567.out⟩, ⟨by (with_reducible repeat (first | refine bN11 ?_ _ | refine bD11 ?_ | refine bA11 ?_ _ | refine bF11 ?_ NB574_579.out _)); exact BK574.out⟩, ⟨by (with_reducible repeat (first | refine bN11 ?_ _ | refine bD11 ?_ | refine bA11 ?_ _)); refine blk_put (cs := #[.int .u8 t575, .int .i64 t576, .string (⟨#[]⟩ : ByteArray)]) ?_ 2 _ rfl; (with_reducible repeat (first | refine bN11 ?_ _ | refine bD11 ?_ | refine bA11 ?_ _)); refine blk_put (cs := #[.int .u8 t575, .int .i64 0, .string (⟨#[]⟩ : ByteArray)]) ?_ 1 _ rfl; (with_reducible repeat (first | refine bN11 ?_ _ | refine bD11 ?_ | refine bA11 ?_ _)); refine blk_put (cs := #[.int .u8 0, .int .i64 0, .string (⟨#[]⟩ : ByteArray)]) ?_ 0 _ rfl; (with_reducible repeat (first | refine bN11 ?_ _ | refine bD11 ?_ | refine bA11 ?_ _)); exact BK579.out⟩, ⟨by repeat (first | (with_reducible first | exact HB.out | apply below_alloc | apply pw_below_drewN | apply below_drew1 | refine bS11 ?_ GE566.out | refine bS11 ?_ GE567.out | refine bS11 ?_ GE574.out | refine bS11 ?_ GE579.out) | exact HB.out)⟩⟩
   ·rw [if_neg c37] at H
    have c37b0 : (!(t570 == t575) || (!(t571 == t576) || (!(t572.toList == t577.toList)))) = false := by simpa using c37
    clear c37
    (first | rw [c37b0] | (simp only [i64_w, i32_w]; rw [c37b0]) | skip)
    have H' := aM11 H
    clear H
    have hnb45 := NB574_566.out
    have hnc45 := NB566_574.out
    have hnb46 := NB574_567.out
    have hnc46 := NB567_574.out
    have hnb47 := NB574_579.out
    have hnc47 := NB579_574.out
    have hcz48_0 : w32.cell? ⟨gb574, 0, none⟩ = some (.int .u8 t570) := (blk_cell BK574.out 0).trans rfl
    have hcz48_1 : w32.cell? ⟨gb574, 1, none⟩ = some (.int .i64 t571) := (blk_cell BK574.out 1).trans rfl
    have hcz48_2 : w32.cell? ⟨gb574, 2, none⟩ = some (.string t572) := (blk_cell BK574.out 2).trans rfl
    have hfz48_0 := blk_frozen BK574.out 0
    have hfz48_1 := blk_frozen BK574.out 1
    have hfz48_2 := blk_frozen BK574.out 2
    have hnb49 := NB579_566.out
    have hnc49 := NB566_579.out
    have hnb50 := NB579_567.out
    have hnc50 := NB567_579.out
    have hcz51_0 : w32.cell? ⟨gb579, 0, none⟩ = some (.int .u8 0) := (blk_cell BK579.out 0).trans rfl
    have hcz51_1 : w32.cell? ⟨gb579, 1, none⟩ = some (.int .i64 0) := (blk_cell BK579.out 1).trans rfl
    have hcz51_2 : w32.cell? ⟨gb579, 2, none⟩ = some (.string (⟨#[]⟩ : ByteArray)) := (blk_cell BK579.out 2).trans rfl
    have hfz51_0 := blk_frozen BK579.out 0
    have hfz51_1 := blk_frozen BK579.out 1
    have hfz51_2 := blk_frozen BK579.out 2
    go_wp2
    go_meet
    case rel => exact ⟨_, ((t573 != t578)), (by first | rfl | (simp; done) | (simp [*]; done)), H', ⟨by first | omega | exact Nat.le_refl _⟩, ⟨by (with_reducible repeat (first | refine bN11 ?_ _ | refine bD11 ?_ | refine bA11 ?_ _ | refine bF11 ?_ NB566_579.out _)); exact BK566.out⟩, ⟨by (with_reducible repeat (first | refine bN11 ?_ _ | refine bD11 ?_ | refine bA11 ?_ _ | refine bF11 ?_ NB567_579.out _)); exact BK567.out⟩, ⟨by (with_reducible repeat (first | refine bN11 ?_ _ | refine bD11 ?_ | refine bA11 ?_ _ | refine bF11 ?_ NB574_579.out _)); exact BK574.out⟩, ⟨by (with_reducible repeat (first | refine bN11 ?_ _ | refine bD11 ?_ | refine bA11 ?_ _)); refine blk_put (cs := #[.int .u8 t575, .int .i64 t576, .string (⟨#[]⟩ : ByteArray)]) ?_ 2 _ rfl; (with_reducible repeat (first | refine bN11 ?_ _ | refine bD11 ?_ | refine bA11 ?_ _)); refine blk_put (cs := #[.int .u8 t575, .int .i64 0, .string (⟨#[]⟩ : ByteArray)]) ?_ 1 _ rfl; (with_reducible repeat (first | refine bN11 ?_ _ | refine bD11 ?_ | refine bA11 ?_ _)); refine blk_put (cs := #[.int .u8 0, .int .i64 0, .string (⟨#[]⟩ : ByteArray)]) ?_ 0 _ rfl; (with_reducible repeat (first | refine bN11 ?_ _ | refine bD11 ?_ | refine bA11 ?_ _)); exact BK579.out⟩, ⟨by repeat (first | (with_reducible first | exact HB.out | apply below_alloc | apply pw_below_drewN | apply below_drew1 | refine bS11 ?_ GE566.out | refine bS11 ?_ GE567.out | refine bS11 ?_ GE574.out | refine bS11 ?_ GE579.out) | exact HB.out)⟩⟩
  case rest =>
   clear HC15
   try clear c1
   try clear c2
   try clear p2
   try clear c3
   try clear c4
   try clear c5
   try clear c8
   try clear c11
   try clear c18
   try clear c23
   try clear c24
   try clear c26
   try clear c27
   try clear c33
   try clear c34
   try clear c35
   try clear c37
   try clear c37b0
   try clear c38
   try clear c39
   try clear c40
   try clear c42
   try clear c43
   try clear c45
   try clear c46
   try clear c47
   try clear c49
   try clear c50
   try clear hcz10_0
   try clear hcz10_1
   try clear hcz10_2
   try clear hcz19_0
   try clear hcz19_1
   try clear hcz19_2
   try clear hcz20_0
   try clear hcz20_1
   try clear hcz20_2
   try clear hcz22_0
   try clear hcz22_1
   try clear hcz22_2
   try clear hcz23_0
   try clear hcz23_1
   try clear hcz23_2
   try clear hcz28_0
   try clear hcz28_1
   try clear hcz28_2
   try clear hcz29_0
   try clear hcz29_1
   try clear hcz29_2
   try clear hcz30_0
   try clear hcz30_1
   try clear hcz30_2
   try clear hcz36_0
   try clear hcz36_1
   try clear hcz36_2
   try clear hcz41_0
   try clear hcz41_1
   try clear hcz41_2
   try clear hcz44_0
   try clear hcz44_1
   try clear hcz44_2
   try clear hcz48_0
   try clear hcz48_1
   try clear hcz48_2
   try clear hcz51_0
   try clear hcz51_1
   try clear hcz51_2
   try clear hcz9_0
   try clear hcz9_1
   try clear hcz9_2
   try clear hfz10_0
   try clear hfz10_1
   try clear hfz10_2
   try clear hfz19_0
   try clear hfz19_1
   try clear hfz19_2
   try clear hfz20_0
   try clear hfz20_1
   try clear hfz20_2
   try clear hfz22_0
   try clear hfz22_1
   try clear hfz22_2
   try clear hfz23_0
   try clear hfz23_1
   try clear hfz23_2
   try clear hfz28_0
   try clear hfz28_1
   try clear hfz28_2
   try clear hfz29_0
   try clear hfz29_1
   try clear hfz29_2
   try clear hfz30_0
   try clear hfz30_1
   try clear hfz30_2
   try clear hfz36_0
   try clear hfz36_1
   try clear hfz36_2
   try clear hfz41_0
   try clear hfz41_1
   try clear hfz41_2
   try clear hfz44_0
   try clear hfz44_1
   try clear hfz44_2
   try clear hfz48_0
   try clear hfz48_1
   try clear hfz48_2
   try clear hfz51_0
   try clear hfz51_1
   try clear hfz51_2
   try clear hfz9_0
   try clear hfz9_1
   try clear hfz9_2
   obtain ⟨kq, x32_14, rfl, HA, HJ14, BK566, BK567, BK574, BK579, HB⟩ := hcut
   cases kq with
   | zero => exact absurd HA.out (by simp [hindsightlaw02_CellSums.j0])
   | succ kj14 =>
    have H := HA.out
    clear HA
    simp only [hindsightlaw02_CellSums.j0] at H
    by_cases c52 : x32_14 = true
    ·subst c52
     have H1 : (none) = some r := by rw [if_pos rfl] at H; exact H
     clear H
     have H := H1
     clear H1
     exact absurd H (by simp)
    ·replace c52 := Bool.eq_false_iff.mpr c52
     subst c52
     have H1 : ((cell_Sub.f kj14 a0_0 a0_1 a0_2 a1_0 a1_1 a1_2).bind fun bt580 => ((hindsightref02_Sub.f kj14 a0_0 a0_1 a0_2 a1_0 a1_1 a1_2).bind fun bt584 => (if (!(bt580.1 == bt584.1) || (!(bt580.2.1 == bt584.2.1) || (!(bt580.2.2.1.toList == bt584.2.2.1.toList)))) = true then (hindsightlaw02_CellSums.j1 kj14 true a0_0 a0_1 a0_2 a1_0 a1_1 a1_2) else (hindsightlaw02_CellSums.j1 kj14 (bt580.2.2.2 != bt584.2.2.2) a0_0 a0_1 a0_2 a1_0 a1_1 a1_2)))) = some r := by rw [if_neg (show ¬ (false = true) by decide)] at H; exact H
     clear H
     have H := H1
     clear H1
     replace H := Option.bind_eq_some_iff.mp H
     obtain ⟨⟨t580, t581, t582, t583⟩, A530, H⟩ := H
     replace H : ((hindsightref02_Sub.f kj14 a0_0 a0_1 a0_2 a1_0 a1_1 a1_2).bind fun bt584 => (if (!(t580 == bt584.1) || (!(t581 == bt584.2.1) || (!(t582.toList == bt584.2.2.1.toList)))) = true then (hindsightlaw02_CellSums.j1 kj14 true a0_0 a0_1 a0_2 a1_0 a1_1 a1_2) else (hindsightlaw02_CellSums.j1 kj14 (t583 != bt584.2.2.2) a0_0 a0_1 a0_2 a1_0 a1_1 a1_2))) = some r := H
     have A53 := aM11 A530
     clear A530
     replace H := Option.bind_eq_some_iff.mp H
     obtain ⟨⟨t584, t585, t586, t587⟩, A540, H⟩ := H
     replace H : (if (!(t580 == t584) || (!(t581 == t585) || (!(t582.toList == t586.toList)))) = true then (hindsightlaw02_CellSums.j1 kj14 true a0_0 a0_1 a0_2 a1_0 a1_1 a1_2) else (hindsightlaw02_CellSums.j1 kj14 (t583 != t587) a0_0 a0_1 a0_2 a1_0 a1_1 a1_2)) = some r := H
     have A54 := aM11 A540
     clear A540
     have HC55 := aM11 H
     clear H
     have hnb56 := NB566_567.out
     have hnc56 := NB567_566.out
     have hnb57 := NB566_574.out
     have hnc57 := NB574_566.out
     have hnb58 := NB566_579.out
     have hnc58 := NB579_566.out
     have hcz59_0 : wc.cell? ⟨gb566, 0, none⟩ = some (.int .u8 a0_0) := (blk_cell BK566.out 0).trans rfl
     have hcz59_1 : wc.cell? ⟨gb566, 1, none⟩ = some (.int .i64 a0_1) := (blk_cell BK566.out 1).trans rfl
     have hcz59_2 : wc.cell? ⟨gb566, 2, none⟩ = some (.string a0_2) := (blk_cell BK566.out 2).trans rfl
     have hfz59_0 := blk_frozen BK566.out 0
     have hfz59_1 := blk_frozen BK566.out 1
     have hfz59_2 := blk_frozen BK566.out 2
     have hnb60 := NB567_574.out
     have hnc60 := NB574_567.out
     have hnb61 := NB567_579.out
     have hnc61 := NB579_567.out
     have hcz62_0 : wc.cell? ⟨gb567, 0, none⟩ = some (.int .u8 a1_0) := (blk_cell BK567.out 0).trans rfl
     have hcz62_1 : wc.cell? ⟨gb567, 1, none⟩ = some (.int .i64 a1_1) := (blk_cell BK567.out 1).trans rfl
     have hcz62_2 : wc.cell? ⟨gb567, 2, none⟩ = some (.string a1_2) := (blk_cell BK567.out 2).trans rfl
     have hfz62_0 := blk_frozen BK567.out 0
     have hfz62_1 := blk_frozen BK567.out 1
     have hfz62_2 := blk_frozen BK567.out 2
     go_upto_region 9 with (first | ((with_reducible refine gate_callee (f := 51) rfl ?_); refine goesL_ (some 36) rfl rfl Try.func51 (by kernel_rfl) rfl #[.agg #[.int .u8 a0_0, .int .i64 a0_1, .string a0_2], .agg #[.int .u8 a1_0, .int .i64 a1_1, .string a1_2]] rfl (by (try simp only [List.map_toArray, List.map_cons, List.map_nil]); first | done | rfl | (simp only [List.length_drop, List.length_take]; rfl)) ?_; (with_reducible refine (cell_Sub.calls kj14 a0_0 a0_1 a0_2 a1_0 a1_1 a1_2 t580 t581 t582 t583 _ A53.out).mono ?_); rintro e w63 ⟨rfl, hb⟩; refine ⟨_, rfl, ?_⟩; have n0_ := aM11 (bB11 (g := gb566) (o := .cells #[.int .u8 a0_0, .int .i64 a0_1, .string a0_2] 35 (0, 0)) (by (with_reducible repeat (first | refine bN11 ?_ _ | refine bD11 ?_ | refine bA11 ?_ _)); exact BK566.out) hb); have n1_ := aM11 (bB11 (g := gb567) (o := .cells #[.int .u8 a1_0, .int .i64 a1_1, .string a1_2] 35 (0, 0)) (by (with_reducible repeat (first | refine bN11 ?_ _ | refine bD11 ?_ | refine bA11 ?_ _)); exact BK567.out) hb); have n2_ := aM11 (bB11 (g := gb574) (o := .cells #[.int .u8 t570, .int .i64 t571, .string t572] 35 (0, 0)) (by (with_reducible repeat (first | refine bN11 ?_ _ | refine bD11 ?_ | refine bA11 ?_ _)); exact BK574.out) hb); have n3_ := aM11 (bB11 (g := gb579) (o := .cells #[.int .u8 t575, .int .i64 t576, .string t577] 35 (0, 0)) (by (with_reducible repeat (first | refine bN11 ?_ _ | refine bD11 ?_ | refine bA11 ?_ _)); exact BK579.out) hb); have n4_ := aM11 (below_step (by repeat (first | (with_reducible first | exact HB.out | apply below_alloc | apply pw_below_drewN | apply below_drew1 | refine bS11 ?_ GE566.out | refine bS11 ?_ GE567.out | refine bS11 ?_ GE574.out | refine bS11 ?_ GE579.out) | exact HB.out)) hb); clear BK566; clear BK567; clear BK574; clear BK579; clear HB; have BK566 := n0_; have BK567 := n1_; have BK574 := n2_; have BK579 := n3_; have HB := n4_; clear n0_ n1_ n2_ n3_ n4_; (try clear hb); (try clear hb2); (try clear hk); (try clear hi); have hnb64 := NB574_579.out; have hnc64 := NB579_574.out; have hcz65_0 : w63.cell? ⟨gb574, 0, none⟩ = some (.int .u8 t570) := (blk_cell BK574.out 0).trans rfl; have hcz65_1 : w63.cell? ⟨gb574, 1, none⟩ = some (.int .i64 t571) := (blk_cell BK574.out 1).trans rfl; have hcz65_2 : w63.cell? ⟨gb574, 2, none⟩ = some (.string t572) := (blk_cell BK574.out 2).trans rfl; have hfz65_0 := blk_frozen BK574.out 0; have hfz65_1 := blk_frozen BK574.out 1; have hfz65_2 := blk_frozen BK574.out 2; have hcz66_0 : w63.cell? ⟨gb566, 0, none⟩ = some (.int .u8 a0_0) := (blk_cell BK566.out 0).trans rfl; have hcz66_1 : w63.cell? ⟨gb566, 1, none⟩ = some (.int .i64 a0_1) := (blk_cell BK566.out 1).trans rfl; have hcz66_2 : w63.cell? ⟨gb566, 2, none⟩ = some (.string a0_2) := (blk_cell BK566.out 2).trans rfl; have hfz66_0 := blk_frozen BK566.out 0; have hfz66_1 := blk_frozen BK566.out 1; have hfz66_2 := blk_frozen BK566.out 2; have hcz67_0 : w63.cell? ⟨gb567, 0, none⟩ = some (.int .u8 a1_0) := (blk_cell BK567.out 0).trans rfl; have hcz67_1 : w63.cell? ⟨gb567, 1, none⟩ = some (.int .i64 a1_1) := (blk_cell BK567.out 1).trans rfl; have hcz67_2 : w63.cell? ⟨gb567, 2, none⟩ = some (.string a1_2) := (blk_cell BK567.out 2).trans rfl; have hfz67_0 := blk_frozen BK567.out 0; have hfz67_1 := blk_frozen BK567.out 1; have hfz67_2 := blk_frozen BK567.out 2) | ((with_reducible refine gate_callee (f := 52) rfl ?_); refine goesL_ (some 42) rfl rfl Try.func52 (by kernel_rfl) rfl #[.agg #[.int .u8 a0_0, .int .i64 a0_1, .string a0_2], .agg #[.int .u8 a1_0, .int .i64 a1_1, .string a1_2]] rfl (by (try simp only [List.map_toArray, List.map_cons, List.map_nil]); first | done | rfl | (simp only [List.length_drop, List.length_take]; rfl)) ?_; (with_reducible refine (hindsightref02_Sub.calls kj14 a0_0 a0_1 a0_2 a1_0 a1_1 a1_2 t584 t585 t586 t587 _ A54.out).mono ?_); rintro e w68 ⟨rfl, hb⟩; refine ⟨_, rfl, ?_⟩; have n0_ := aM11 (bB11 (g := gb566) (o := .cells #[.int .u8 a0_0, .int .i64 a0_1, .string a0_2] 35 (0, 0)) (by (with_reducible repeat (first | refine bN11 ?_ _ | refine bD11 ?_ | refine bA11 ?_ _ | refine bF11 ?_ NB566_574.out _)); exact BK566.out) hb); have n1_ := aM11 (bB11 (g := gb567) (o := .cells #[.int .u8 a1_0, .int .i64 a1_1, .string a1_2] 35 (0, 0)) (by (with_reducible repeat (first | refine bN11 ?_ _ | refine bD11 ?_ | refine bA11 ?_ _ | refine bF11 ?_ NB567_574.out _)); exact BK567.out) hb); have n2_ := aM11 (bB11 (g := gb574) (o := .cells #[.int .u8 t580, .int .i64 t581, .string t582] 35 (0, 0)) (by (with_reducible repeat (first | refine bN11 ?_ _ | refine bD11 ?_ | refine bA11 ?_ _)); refine blk_put (cs := #[.int .u8 t580, .int .i64 t581, .string t572]) ?_ 2 _ rfl; (with_reducible repeat (first | refine bN11 ?_ _ | refine bD11 ?_ | refine bA11 ?_ _)); refine blk_put (cs := #[.int .u8 t580, .int .i64 t571, .string t572]) ?_ 1 _ rfl; (with_reducible repeat (first | refine bN11 ?_ _ | refine bD11 ?_ | refine bA11 ?_ _)); refine blk_put (cs := #[.int .u8 t570, .int .i64 t571, .string t572]) ?_ 0 _ rfl; (with_reducible repeat (first | refine bN11 ?_ _ | refine bD11 ?_ | refine bA11 ?_ _)); exact BK574.out) hb); have n3_ := aM11 (bB11 (g := gb579) (o := .cells #[.int .u8 t575, .int .i64 t576, .string t577] 35 (0, 0)) (by (with_reducible repeat (first | refine bN11 ?_ _ | refine bD11 ?_ | refine bA11 ?_ _ | refine bF11 ?_ NB579_574.out _)); exact BK579.out) hb); have n4_ := aM11 (below_step (by repeat (first | (with_reducible first | exact HB.out | apply below_alloc | apply pw_below_drewN | apply below_drew1 | refine bS11 ?_ GE566.out | refine bS11 ?_ GE567.out | refine bS11 ?_ GE574.out | refine bS11 ?_ GE579.out) | exact HB.out)) hb); clear BK566; clear BK567; clear BK574; clear BK579; clear HB; have BK566 := n0_; have BK567 := n1_; have BK574 := n2_; have BK579 := n3_; have HB := n4_; clear n0_ n1_ n2_ n3_ n4_; (try clear hb); (try clear hb2); (try clear hk); (try clear hi); have hcz69_0 : w68.cell? ⟨gb579, 0, none⟩ = some (.int .u8 t575) := (blk_cell BK579.out 0).trans rfl; have hcz69_1 : w68.cell? ⟨gb579, 1, none⟩ = some (.int .i64 t576) := (blk_cell BK579.out 1).trans rfl; have hcz69_2 : w68.cell? ⟨gb579, 2, none⟩ = some (.string t577) := (blk_cell BK579.out 2).trans rfl; have hfz69_0 := blk_frozen BK579.out 0; have hfz69_1 := blk_frozen BK579.out 1; have hfz69_2 := blk_frozen BK579.out 2))
     (try simp only [Act.put, List.setIfInBounds_toArray, List.set_cons_zero, List.set_cons_succ])
     go_cut [52] (fun v52 wc => ∃ (kq : Nat) (x52_54 : Bool), v52 = .bool x52_54 ∧ Aside0 (hindsightlaw02_CellSums.j1 kq x52_54 a0_0 a0_1 a0_2 a1_0 a1_1 a1_2 = some r) ∧ Aside0 (kq ≤ kj14) ∧ Aside0 (wc.heap[gb566]? = some (.cells #[.int .u8 a0_0, .int .i64 a0_1, .string a0_2] 35 (0, 0))) ∧ Aside0 (wc.heap[gb567]? = some (.cells #[.int .u8 a1_0, .int .i64 a1_1, .string a1_2] 35 (0, 0))) ∧ Aside0 (wc.heap[gb574]? = some (.cells #[.int .u8 t580, .int .i64 t581, .string t582] 35 (0, 0))) ∧ Aside0 (wc.heap[gb579]? = some (.cells #[.int .u8 t584, .int .i64 t585, .string t586] 35 (0, 0))) ∧ Aside0 (Below w.heap.size w wc))
     case first =>
      have H := HC55.out
      clear HC55
      by_cases c70 : (!(t580 == t584) || (!(t581 == t585) || (!(t582.toList == t586.toList)))) = true
      ·rw [if_pos c70] at H
       have c70b0 : (!(t580 == t584) || (!(t581 == t585) || (!(t582.toList == t586.toList)))) = true := c70
       clear c70
       (first | rw [c70b0] | (simp only [i64_w, i32_w]; rw [c70b0]) | skip)
       have H' := aM11 H
       clear H
       have hnb71 := NB574_566.out
       have hnc71 := NB566_574.out
       have hnb72 := NB574_567.out
       have hnc72 := NB567_574.out
       have hnb73 := NB574_579.out
       have hnc73 := NB579_574.out
       have hcz74_0 : w68.cell? ⟨gb574, 0, none⟩ = some (.int .u8 t580) := (blk_cell BK574.out 0).trans rfl
       have hcz74_1 : w68.cell? ⟨gb574, 1, none⟩ = some (.int .i64 t581) := (blk_cell BK574.out 1).trans rfl
       have hcz74_2 : w68.cell? ⟨gb574, 2, none⟩ = some (.string t582) := (blk_cell BK574.out 2).trans rfl
       have hfz74_0 := blk_frozen BK574.out 0
       have hfz74_1 := blk_frozen BK574.out 1
       have hfz74_2 := blk_frozen BK574.out 2
       have hnb75 := NB579_566.out
       have hnc75 := NB566_579.out
       have hnb76 := NB579_567.out
       have hnc76 := NB567_579.out
       have hcz77_0 : w68.cell? ⟨gb579, 0, none⟩ = some (.int .u8 t575) := (blk_cell BK579.out 0).trans rfl
       have hcz77_1 : w68.cell? ⟨gb579, 1, none⟩ = some (.int .i64 t576) := (blk_cell BK579.out 1).trans rfl
       have hcz77_2 : w68.cell? ⟨gb579, 2, none⟩ = some (.string t577) := (blk_cell BK579.out 2).trans rfl
       have hfz77_0 := blk_frozen BK579.out 0
       have hfz77_1 := blk_frozen BK579.out 1
       have hfz77_2 := blk_frozen BK579.out 2
       go_wp2
       go_meet
       case rel => exact ⟨_, (true), (by first | rfl | (simp; done) | (simp [*]; done)), H', ⟨by have := HJ14.out; first | omega | exact Nat.le_refl _⟩, ⟨by (with_reducible repeat (first | refine bN11 ?_ _ | refine bD11 ?_ | refine bA11 ?_ _ | refine bF11 ?_ NB566_579.out _)); exact BK566.out⟩, ⟨by (with_reducible repeat (first | refine bN11 ?_ _ | refine bD11 ?_ | refine bA11 ?_ _ | refine bF11 ?_ NB567_579.out _)); exact BK567.out⟩, ⟨by (with_reducible repeat (first | refine bN11 ?_ _ | refine bD11 ?_ | refine bA11 ?_ _ | refine bF11 ?_ NB574_579.out _)); exact BK574.out⟩, ⟨by (with_reducible repeat (first | refine bN11 ?_ _ | refine bD11 ?_ | refine bA11 ?_ _)); refine blk_put (cs := #[.int .u8 t584, .int .i64 t585, .string t577]) ?_ 2 _ rfl; (with_reducible repeat (first | refine bN11 ?_ _ | refine bD11 ?_ | refine bA11 ?_ _)); refine blk_put (cs := #[.int .u8 t584, .int .i64 t576, .string t577]) ?_ 1 _ rfl; (with_reducible repeat (first | refine bN11 ?_ _ | refine bD11 ?_ | refine bA11 ?_ _)); refine blk_put (cs := #[.int .u8 t575, .int .i64 t576, .string t577]) ?_ 0 _ rfl; (with_reducible repeat (first | refine bN11 ?_ _ | refine bD11 ?_ | refine bA11 ?_ _)); exact BK579.out⟩, ⟨by repeat (first | (with_reducible first | exact HB.out | apply below_alloc | apply pw_below_drewN | apply below_drew1 | refine bS11 ?_ GE566.out | refine bS11 ?_ GE567.out | refine bS11 ?_ GE574.out | refine bS11 ?_ GE579.out) | exact HB.out)⟩⟩
      ·rw [if_neg c70] at H
       have c70b0 : (!(t580 == t584) || (!(t581 == t585) || (!(t582.toList == t586.toList)))) = false := by simpa using c70
       clear c70
       (first | rw [c70b0] | (simp only [i64_w, i32_w]; rw [c70b0]) | skip)
       have H' := aM11 H
       clear H
       have hnb78 := NB574_566.out
       have hnc78 := NB566_574.out
       have hnb79 := NB574_567.out
       have hnc79 := NB567_574.out
       have hnb80 := NB574_579.out
       have hnc80 := NB579_574.out
       have hcz81_0 : w68.cell? ⟨gb574, 0, none⟩ = some (.int .u8 t580) := (blk_cell BK574.out 0).trans rfl
       have hcz81_1 : w68.cell? ⟨gb574, 1, none⟩ = some (.int .i64 t581) := (blk_cell BK574.out 1).trans rfl
       have hcz81_2 : w68.cell? ⟨gb574, 2, none⟩ = some (.string t582) := (blk_cell BK574.out 2).trans rfl
       have hfz81_0 := blk_frozen BK574.out 0
       have hfz81_1 := blk_frozen BK574.out 1
       have hfz81_2 := blk_frozen BK574.out 2
       have hnb82 := NB579_566.out
       have hnc82 := NB566_579.out
       have hnb83 := NB579_567.out
       have hnc83 := NB567_579.out
       have hcz84_0 : w68.cell? ⟨gb579, 0, none⟩ = some (.int .u8 t575) := (blk_cell BK579.out 0).trans rfl
       have hcz84_1 : w68.cell? ⟨gb579, 1, none⟩ = some (.int .i64 t576) := (blk_cell BK579.out 1).trans rfl
       have hcz84_2 : w68.cell? ⟨gb579, 2, none⟩ = some (.string t577) := (blk_cell BK579.out 2).trans rfl
       have hfz84_0 := blk_frozen BK579.out 0
       have hfz84_1 := blk_frozen BK579.out 1
       have hfz84_2 := blk_frozen BK579.out 2
       go_wp2
       go_meet
       case rel => exact ⟨_, ((t583 != t587)), (by first | rfl | (simp; done) | (simp [*]; done)), H', ⟨by have := HJ14.out; first | omega | exact Nat.le_refl _⟩, ⟨by (with_reducible repeat (first | refine bN11 ?_ _ | refine bD11 ?_ | refine bA11 ?_ _ | refine bF11 ?_ NB566_579.out _)); exact BK566.out⟩, ⟨by (with_reducible repeat (first | refine bN11 ?_ _ | refine bD11 ?_ | refine bA11 ?_ _ | refine bF11 ?_ NB567_579.out _)); exact BK567.out⟩, ⟨by (with_reducible repeat (first | refine bN11 ?_ _ | refine bD11 ?_ | refine bA11 ?_ _ | refine bF11 ?_ NB574_579.out _)); exact BK574.out⟩, ⟨by (with_reducible repeat (first | refine bN11 ?_ _ | refine bD11 ?_ | refine bA11 ?_ _)); refine blk_put (cs := #[.int .u8 t584, .int .i64 t585, .string t577]) ?_ 2 _ rfl; (with_reducible repeat (first | refine bN11 ?_ _ | refine bD11 ?_ | refine bA11 ?_ _)); refine blk_put (cs := #[.int .u8 t584, .int .i64 t576, .string t577]) ?_ 1 _ rfl; (with_reducible repeat (first | refine bN11 ?_ _ | refine bD11 ?_ | refine bA11 ?_ _)); refine blk_put (cs := #[.int .u8 t575, .int .i64 t576, .string t577]) ?_ 0 _ rfl; (with_reducible repeat (first | refine bN11 ?_ _ | refine bD11 ?_ | refine bA11 ?_ _)); exact BK579.out⟩, ⟨by repeat (first | (with_reducible first | exact HB.out | apply below_alloc | apply pw_below_drewN | apply below_drew1 | refine bS11 ?_ GE566.out | refine bS11 ?_ GE567.out | refine bS11 ?_ GE574.out | refine bS11 ?_ GE579.out) | exact HB.out)⟩⟩
     case rest =>
      clear HC55
      try clear c1
      try clear c2
      try clear p2
      try clear c3
      try clear c4
      try clear c5
      try clear c6
      try clear c7
      try clear c8
      try clear c11
      try clear c18
      try clear c23
      try clear c24
      try clear c26
      try clear c27
      try clear c33
      try clear c34
      try clear c35
      try clear c37
      try clear c37b0
      try clear c38
      try clear c39
      try clear c40
      try clear c42
      try clear c43
      try clear c45
      try clear c46
      try clear c47
      try clear c49
      try clear c50
      try clear c51
      try clear c52
      try clear c56
      try clear c57
      try clear c58
      try clear c60
      try clear c61
      try clear c64
      try clear c70
      try clear c70b0
      try clear c71
      try clear c72
      try clear c73
      try clear c75
      try clear c76
      try clear c78
      try clear c79
      try clear c80
      try clear c82
      try clear c83
      try clear hcz10_0
      try clear hcz10_1
      try clear hcz10_2
      try clear hcz19_0
      try clear hcz19_1
      try clear hcz19_2
      try clear hcz20_0
      try clear hcz20_1
      try clear hcz20_2
      try clear hcz22_0
      try clear hcz22_1
      try clear hcz22_2
      try clear hcz23_0
      try clear hcz23_1
      try clear hcz23_2
      try clear hcz28_0
      try clear hcz28_1
      try clear hcz28_2
      try clear hcz29_0
      try clear hcz29_1
      try clear hcz29_2
      try clear hcz30_0
      try clear hcz30_1
      try clear hcz30_2
      try clear hcz36_0
      try clear hcz36_1
      try clear hcz36_2
      try clear hcz41_0
      try clear hcz41_1
      try clear hcz41_2
      try clear hcz44_0
      try clear hcz44_1
      try clear hcz44_2
      try clear hcz48_0
      try clear hcz48_1
      try clear hcz48_2
      try clear hcz51_0
      try clear hcz51_1
      try clear hcz51_2
      try clear hcz59_0
      try clear hcz59_1
      try clear hcz59_2
      try clear hcz62_0
      try clear hcz62_1
      try clear hcz62_2
      try clear hcz65_0
      try clear hcz65_1
      try clear hcz65_2
      try clear hcz66_0
      try clear hcz66_1
      try clear hcz66_2
      try clear hcz67_0
      try clear hcz67_1
      try clear hcz67_2
      try clear hcz69_0
      try clear hcz69_1
      try clear hcz69_2
      try clear hcz74_0
      try clear hcz74_1
      try clear hcz74_2
      try clear hcz77_0
      try clear hcz77_1
      try clear hcz77_2
      try clear hcz81_0
      try clear hcz81_1
      try clear hcz81_2
      try clear hcz84_0
      try clear hcz84_1
      try clear hcz84_2
      try clear hcz9_0
      try clear hcz9_1
      try clear hcz9_2
      try clear hfz10_0
      try clear hfz10_1
      try clear hfz10_2
      try clear hfz19_0
      try clear hfz19_1
      try clear hfz19_2
      try clear hfz20_0
      try clear hfz20_1
      try clear hfz20_2
      try clear hfz22_0
      try clear hfz22_1
      try clear hfz22_2
      try clear hfz23_0
      try clear hfz23_1
      try clear hfz23_2
      try clear hfz28_0
      try clear hfz28_1
      try clear hfz28_2
      try clear hfz29_0
      try clear hfz29_1
      try clear hfz29_2
      try clear hfz30_0
      try clear hfz30_1
      try clear hfz30_2
      try clear hfz36_0
      try clear hfz36_1
      try clear hfz36_2
      try clear hfz41_0
      try clear hfz41_1
      try clear hfz41_2
      try clear hfz44_0
      try clear hfz44_1
      try clear hfz44_2
      try clear hfz48_0
      try clear hfz48_1
      try clear hfz48_2
      try clear hfz51_0
      try clear hfz51_1
      try clear hfz51_2
      try clear hfz59_0
      try clear hfz59_1
      try clear hfz59_2
      try clear hfz62_0
      try clear hfz62_1
      try clear hfz62_2
      try clear hfz65_0
      try clear hfz65_1
      try clear hfz65_2
      try clear hfz66_0
      try clear hfz66_1
      try clear hfz66_2
      try clear hfz67_0
      try clear hfz67_1
      try clear hfz67_2
      try clear hfz69_0
      try clear hfz69_1
      try clear hfz69_2
      try clear hfz74_0
      try clear hfz74_1
      try clear hfz74_2
      try clear hfz77_0
      try clear hfz77_1
      try clear hfz77_2
      try clear hfz81_0
      try clear hfz81_1
      try clear hfz81_2
      try clear hfz84_0
      try clear hfz84_1
      try clear hfz84_2
      try clear hfz9_0
      try clear hfz9_1
      try clear hfz9_2
      try clear p2
      obtain ⟨kq, x52_54, rfl, HA, HJ54, BK566, BK567, BK574, BK579, HB⟩ := hcut
      cases kq with
      | zero => exact absurd HA.out (by simp [hindsightlaw02_CellSums.j1])
      | succ kj54 =>
       have H := HA.out
       clear HA
       simp only [hindsightlaw02_CellSums.j1] at H
       by_cases c85 : x52_54 = true
       ·subst c85
        have H1 : (none) = some r := by rw [if_pos rfl] at H; exact H
        clear H
        have H := H1
        clear H1
        exact absurd H (by simp)
       ·replace c85 := Bool.eq_false_iff.mpr c85
        subst c85
        have H1 : ((cell_Mul.f kj54 a0_0 a0_1 a0_2 a1_0 a1_1 a1_2).bind fun bt588 => ((hindsightref02_Mul.f kj54 a0_0 a0_1 a0_2 a1_0 a1_1 a1_2).bind fun bt592 => (if (!(bt588.1 == bt592.1) || (!(bt588.2.1 == bt592.2.1) || (!(bt588.2.2.1.toList == bt592.2.2.1.toList)))) = true then (hindsightlaw02_CellSums.j2 kj54 true a0_0 a0_1 a0_2 a1_0 a1_1 a1_2) else (hindsightlaw02_CellSums.j2 kj54 (bt588.2.2.2 != bt592.2.2.2) a0_0 a0_1 a0_2 a1_0 a1_1 a1_2)))) = some r := by rw [if_neg (show ¬ (false = true) by decide)] at H; exact H
        clear H
        have H := H1
        clear H1
        replace H := Option.bind_eq_some_iff.mp H
        obtain ⟨⟨t588, t589, t590, t591⟩, A860, H⟩ := H
        replace H : ((hindsightref02_Mul.f kj54 a0_0 a0_1 a0_2 a1_0 a1_1 a1_2).bind fun bt592 => (if (!(t588 == bt592.1) || (!(t589 == bt592.2.1) || (!(t590.toList == bt592.2.2.1.toList)))) = true then (hindsightlaw02_CellSums.j2 kj54 true a0_0 a0_1 a0_2 a1_0 a1_1 a1_2) else (hindsightlaw02_CellSums.j2 kj54 (t591 != bt592.2.2.2) a0_0 a0_1 a0_2 a1_0 a1_1 a1_2))) = some r := H
        have A86 := aM11 A860
        clear A860
        replace H := Option.bind_eq_some_iff.mp H
        obtain ⟨⟨t592, t593, t594, t595⟩, A870, H⟩ := H
        replace H : (if (!(t588 == t592) || (!(t589 == t593) || (!(t590.toList == t594.toList)))) = true then (hindsightlaw02_CellSums.j2 kj54 true a0_0 a0_1 a0_2 a1_0 a1_1 a1_2) else (hindsightlaw02_CellSums.j2 kj54 (t591 != t595) a0_0 a0_1 a0_2 a1_0 a1_1 a1_2)) = some r := H
        have A87 := aM11 A870
        clear A870
        have HC88 := aM11 H
        clear H
        have hnb89 := NB566_567.out
        have hnc89 := NB567_566.out
        have hnb90 := NB566_574.out
        have hnc90 := NB574_566.out
        have hnb91 := NB566_579.out
        have hnc91 := NB579_566.out
        have hcz92_0 : wc.cell? ⟨gb566, 0, none⟩ = some (.int .u8 a0_0) := (blk_cell BK566.out 0).trans rfl
        have hcz92_1 : wc.cell? ⟨gb566, 1, none⟩ = some (.int .i64 a0_1) := (blk_cell BK566.out 1).trans rfl
        have hcz92_2 : wc.cell? ⟨gb566, 2, none⟩ = some (.string a0_2) := (blk_cell BK566.out 2).trans rfl
        have hfz92_0 := blk_frozen BK566.out 0
        have hfz92_1 := blk_frozen BK566.out 1
        have hfz92_2 := blk_frozen BK566.out 2
        have hnb93 := NB567_574.out
        have hnc93 := NB574_567.out
        have hnb94 := NB567_579.out
        have hnc94 := NB579_567.out
        have hcz95_0 : wc.cell? ⟨gb567, 0, none⟩ = some (.int .u8 a1_0) := (blk_cell BK567.out 0).trans rfl
        have hcz95_1 : wc.cell? ⟨gb567, 1, none⟩ = some (.int .i64 a1_1) := (blk_cell BK567.out 1).trans rfl
        have hcz95_2 : wc.cell? ⟨gb567, 2, none⟩ = some (.string a1_2) := (blk_cell BK567.out 2).trans rfl
        have hfz95_0 := blk_frozen BK567.out 0
        have hfz95_1 := blk_frozen BK567.out 1
        have hfz95_2 := blk_frozen BK567.out 2
        go_upto_region 13 with (first | ((with_reducible refine gate_callee (f := 53) rfl ?_); refine goesL_ (some 56) rfl rfl Try.func53 (by kernel_rfl) rfl #[.agg #[.int .u8 a0_0, .int .i64 a0_1, .string a0_2], .agg #[.int .u8 a1_0, .int .i64 a1_1, .string a1_2]] rfl (by (try simp only [List.map_toArray, List.map_cons, List.map_nil]); first | done | rfl | (simp only [List.length_drop, List.length_take]; rfl)) ?_; (with_reducible refine (cell_Mul.calls kj54 a0_0 a0_1 a0_2 a1_0 a1_1 a1_2 t588 t589 t590 t591 _ A86.out).mono ?_); rintro e w96 ⟨rfl, hb⟩; refine ⟨_, rfl, ?_⟩; have n0_ := aM11 (bB11 (g := gb566) (o := .cells #[.int .u8 a0_0, .int .i64 a0_1, .string a0_2] 35 (0, 0)) (by (with_reducible repeat (first | refine bN11 ?_ _ | refine bD11 ?_ | refine bA11 ?_ _)); exact BK566.out) hb); have n1_ := aM11 (bB11 (g := gb567) (o := .cells #[.int .u8 a1_0, .int .i64 a1_1, .string a1_2] 35 (0, 0)) (by (with_reducible repeat (first | refine bN11 ?_ _ | refine bD11 ?_ | refine bA11 ?_ _)); exact BK567.out) hb); have n2_ := aM11 (bB11 (g := gb574) (o := .cells #[.int .u8 t580, .int .i64 t581, .string t582] 35 (0, 0)) (by (with_reducible repeat (first | refine bN11 ?_ _ | refine bD11 ?_ | refine bA11 ?_ _)); exact BK574.out) hb); have n3_ := aM11 (bB11 (g := gb579) (o := .cells #[.int .u8 t584, .int .i64 t585, .string t586] 35 (0, 0)) (by (with_reducible repeat (first | refine bN11 ?_ _ | refine bD11 ?_ | refine bA11 ?_ _)); exact BK579.out) hb); have n4_ := aM11 (below_step (by repeat (first | (with_reducible first | exact HB.out | apply below_alloc | apply pw_below_drewN | apply below_drew1 | refine bS11 ?_ GE566.out | refine bS11 ?_ GE567.out | refine bS11 ?_ GE574.out | refine bS11 ?_ GE579.out) | exact HB.out)) hb); clear BK566; clear BK567; clear BK574; clear BK579; clear HB; have BK566 := n0_; have BK567 := n1_; have BK574 := n2_; have BK579 := n3_; have HB := n4_; clear n0_ n1_ n2_ n3_ n4_; (try clear hb); (try clear hb2); (try clear hk); (try clear hi); have hnb97 := NB574_579.out; have hnc97 := NB579_574.out; have hcz98_0 : w96.cell? ⟨gb574, 0, none⟩ = some (.int .u8 t580) := (blk_cell BK574.out 0).trans rfl; have hcz98_1 : w96.cell? ⟨gb574, 1, none⟩ = some (.int .i64 t581) := (blk_cell BK574.out 1).trans rfl; have hcz98_2 : w96.cell? ⟨gb574, 2, none⟩ = some (.string t582) := (blk_cell BK574.out 2).trans rfl; have hfz98_0 := blk_frozen BK574.out 0; have hfz98_1 := blk_frozen BK574.out 1; have hfz98_2 := blk_frozen BK574.out 2; have hcz99_0 : w96.cell? ⟨gb566, 0, none⟩ = some (.int .u8 a0_0) := (blk_cell BK566.out 0).trans rfl; have hcz99_1 : w96.cell? ⟨gb566, 1, none⟩ = some (.int .i64 a0_1) := (blk_cell BK566.out 1).trans rfl; have hcz99_2 : w96.cell? ⟨gb566, 2, none⟩ = some (.string a0_2) := (blk_cell BK566.out 2).trans rfl; have hfz99_0 := blk_frozen BK566.out 0; have hfz99_1 := blk_frozen BK566.out 1; have hfz99_2 := blk_frozen BK566.out 2; have hcz100_0 : w96.cell? ⟨gb567, 0, none⟩ = some (.int .u8 a1_0) := (blk_cell BK567.out 0).trans rfl; have hcz100_1 : w96.cell? ⟨gb567, 1, none⟩ = some (.int .i64 a1_1) := (blk_cell BK567.out 1).trans rfl; have hcz100_2 : w96.cell? ⟨gb567, 2, none⟩ = some (.string a1_2) := (blk_cell BK567.out 2).trans rfl; have hfz100_0 := blk_frozen BK567.out 0; have hfz100_1 := blk_frozen BK567.out 1; have hfz100_2 := blk_frozen BK567.out 2) | ((with_reducible refine gate_callee (f := 54) rfl ?_); refine goesL_ (some 62) rfl rfl Try.func54 (by kernel_rfl) rfl #[.agg #[.int .u8 a0_0, .int .i64 a0_1, .string a0_2], .agg #[.int .u8 a1_0, .int .i64 a1_1, .string a1_2]] rfl (by (try simp only [List.map_toArray, List.map_cons, List.map_nil]); first | done | rfl | (simp only [List.length_drop, List.length_take]; rfl)) ?_; (with_reducible refine (hindsightref02_Mul.calls kj54 a0_0 a0_1 a0_2 a1_0 a1_1 a1_2 t592 t593 t594 t595 _ A87.out).mono ?_); rintro e w101 ⟨rfl, hb⟩; refine ⟨_, rfl, ?_⟩; have n0_ := aM11 (bB11 (g := gb566) (o := .cells #[.int .u8 a0_0, .int .i64 a0_1, .string a0_2] 35 (0, 0)) (by (with_reducible repeat (first | refine bN11 ?_ _ | refine bD11 ?_ | refine bA11 ?_ _ | refine bF11 ?_ NB566_574.out _)); exact BK566.out) hb); have n1_ := aM11 (bB11 (g := gb567) (o := .cells #[.int .u8 a1_0, .int .i64 a1_1, .string a1_2] 35 (0, 0)) (by (with_reducible repeat (first | refine bN11 ?_ _ | refine bD11 ?_ | refine bA11 ?_ _ | refine bF11 ?_ NB567_574.out _)); exact BK567.out) hb); have n2_ := aM11 (bB11 (g := gb574) (o := .cells #[.int .u8 t588, .int .i64 t589, .string t590] 35 (0, 0)) (by (with_reducible repeat (first | refine bN11 ?_ _ | refine bD11 ?_ | refine bA11 ?_ _)); refine blk_put (cs := #[.int .u8 t588, .int .i64 t589, .string t582]) ?_ 2 _ rfl; (with_reducible repeat (first | refine bN11 ?_ _ | refine bD11 ?_ | refine bA11 ?_ _)); refine blk_put (cs := #[.int .u8 t588, .int .i64 t581, .string t582]) ?_ 1 _ rfl; (with_reducible repeat (first | refine bN11 ?_ _ | refine bD11 ?_ | refine bA11 ?_ _)); refine blk_put (cs := #[.int .u8 t580, .int .i64 t581, .string t582]) ?_ 0 _ rfl; (with_reducible repeat (first | refine bN11 ?_ _ | refine bD11 ?_ | refine bA11 ?_ _)); exact BK574.out) hb); have n3_ := aM11 (bB11 (g := gb579) (o := .cells #[.int .u8 t584, .int .i64 t585, .string t586] 35 (0, 0)) (by (with_reducible repeat (first | refine bN11 ?_ _ | refine bD11 ?_ | refine bA11 ?_ _ | refine bF11 ?_ NB579_574.out _)); exact BK579.out) hb); have n4_ := aM11 (below_step (by repeat (first | (with_reducible first | exact HB.out | apply below_alloc | apply pw_below_drewN | apply below_drew1 | refine bS11 ?_ GE566.out | refine bS11 ?_ GE567.out | refine bS11 ?_ GE574.out | refine bS11 ?_ GE579.out) | exact HB.out)) hb); clear BK566; clear BK567; clear BK574; clear BK579; clear HB; have BK566 := n0_; have BK567 := n1_; have BK574 := n2_; have BK579 := n3_; have HB := n4_; clear n0_ n1_ n2_ n3_ n4_; (try clear hb); (try clear hb2); (try clear hk); (try clear hi); have hcz102_0 : w101.cell? ⟨gb579, 0, none⟩ = some (.int .u8 t584) := (blk_cell BK579.out 0).trans rfl; have hcz102_1 : w101.cell? ⟨gb579, 1, none⟩ = some (.int .i64 t585) := (blk_cell BK579.out 1).trans rfl; have hcz102_2 : w101.cell? ⟨gb579, 2, none⟩ = some (.string t586) := (blk_cell BK579.out 2).trans rfl; have hfz102_0 := blk_frozen BK579.out 0; have hfz102_1 := blk_frozen BK579.out 1; have hfz102_2 := blk_frozen BK579.out 2))
        (try simp only [Act.put, List.setIfInBounds_toArray, List.set_cons_zero, List.set_cons_succ])
        go_cut [72] (fun v72 wc => ∃ (kq : Nat) (x72_87 : Bool), v72 = .bool x72_87 ∧ Aside0 (hindsightlaw02_CellSums.j2 kq x72_87 a0_0 a0_1 a0_2 a1_0 a1_1 a1_2 = some r) ∧ Aside0 (kq ≤ kj54) ∧ Aside0 (wc.heap[gb566]? = some (.cells #[.int .u8 a0_0, .int .i64 a0_1, .string a0_2] 35 (0, 0))) ∧ Aside0 (wc.heap[gb567]? = some (.cells #[.int .u8 a1_0, .int .i64 a1_1, .string a1_2] 35 (0, 0))) ∧ Aside0 (wc.heap[gb574]? = some (.cells #[.int .u8 t588, .int .i64 t589, .string t590] 35 (0, 0))) ∧ Aside0 (wc.heap[gb579]? = some (.cells #[.int .u8 t592, .int .i64 t593, .string t594] 35 (0, 0))) ∧ Aside0 (Below w.heap.size w wc))
        case first =>
         have H := HC88.out
         clear HC88
         by_cases c103 : (!(t588 == t592) || (!(t589 == t593) || (!(t590.toList == t594.toList)))) = true
         ·rw [if_pos c103] at H
          have c103b0 : (!(t588 == t592) || (!(t589 == t593) || (!(t590.toList == t594.toList)))) = true := c103
          clear c103
          (first | rw [c103b0] | (simp only [i64_w, i32_w]; rw [c103b0]) | skip)
          have H' := aM11 H
          clear H
          have hnb104 := NB574_566.out
          have hnc104 := NB566_574.out
          have hnb105 := NB574_567.out
          have hnc105 := NB567_574.out
          have hnb106 := NB574_579.out
          have hnc106 := NB579_574.out
          have hcz107_0 : w101.cell? ⟨gb574, 0, none⟩ = some (.int .u8 t588) := (blk_cell BK574.out 0).trans rfl
          have hcz107_1 : w101.cell? ⟨gb574, 1, none⟩ = some (.int .i64 t589) := (blk_cell BK574.out 1).trans rfl
          have hcz107_2 : w101.cell? ⟨gb574, 2, none⟩ = some (.string t590) := (blk_cell BK574.out 2).trans rfl
          have hfz107_0 := blk_frozen BK574.out 0
          have hfz107_1 := blk_frozen BK574.out 1
          have hfz107_2 := blk_frozen BK574.out 2
          have hnb108 := NB579_566.out
          have hnc108 := NB566_579.out
          have hnb109 := NB579_567.out
          have hnc109 := NB567_579.out
          have hcz110_0 : w101.cell? ⟨gb579, 0, none⟩ = some (.int .u8 t584) := (blk_cell BK579.out 0).trans rfl
          have hcz110_1 : w101.cell? ⟨gb579, 1, none⟩ = some (.int .i64 t585) := (blk_cell BK579.out 1).trans rfl
          have hcz110_2 : w101.cell? ⟨gb579, 2, none⟩ = some (.string t586) := (blk_cell BK579.out 2).trans rfl
          have hfz110_0 := blk_frozen BK579.out 0
          have hfz110_1 := blk_frozen BK579.out 1
          have hfz110_2 := blk_frozen BK579.out 2
          go_wp2
          go_meet
          case rel => exact ⟨_, (true), (by first | rfl | (simp; done) | (simp [*]; done)), H', ⟨by have := HJ14.out; have := HJ54.out; first | omega | exact Nat.le_refl _⟩, ⟨by (with_reducible repeat (first | refine bN11 ?_ _ | refine bD11 ?_ | refine bA11 ?_ _ | refine bF11 ?_ NB566_579.out _)); exact BK566.out⟩, ⟨by (with_reducible repeat (first | refine bN11 ?_ _ | refine bD11 ?_ | refine bA11 ?_ _ | refine bF11 ?_ NB567_579.out _)); exact BK567.out⟩, ⟨by (with_reducible repeat (first | refine bN11 ?_ _ | refine bD11 ?_ | refine bA11 ?_ _ | refine bF11 ?_ NB574_579.out _)); exact BK574.out⟩, ⟨by (with_reducible repeat (first | refine bN11 ?_ _ | refine bD11 ?_ | refine bA11 ?_ _)); refine blk_put (cs := #[.int .u8 t592, .int .i64 t593, .string t586]) ?_ 2 _ rfl; (with_reducible repeat (first | refine bN11 ?_ _ | refine bD11 ?_ | refine bA11 ?_ _)); refine blk_put (cs := #[.int .u8 t592, .int .i64 t585, .string t586]) ?_ 1 _ rfl; (with_reducible repeat (first | refine bN11 ?_ _ | refine bD11 ?_ | refine bA11 ?_ _)); refine blk_put (cs := #[.int .u8 t584, .int .i64 t585, .string t586]) ?_ 0 _ rfl; (with_reducible repeat (first | refine bN11 ?_ _ | refine bD11 ?_ | refine bA11 ?_ _)); exact BK579.out⟩, ⟨by repeat (first | (with_reducible first | exact HB.out | apply below_alloc | apply pw_below_drewN | apply below_drew1 | refine bS11 ?_ GE566.out | refine bS11 ?_ GE567.out | refine bS11 ?_ GE574.out | refine bS11 ?_ GE579.out) | exact HB.out)⟩⟩
         ·rw [if_neg c103] at H
          have c103b0 : (!(t588 == t592) || (!(t589 == t593) || (!(t590.toList == t594.toList)))) = false := by simpa using c103
          clear c103
          (first | rw [c103b0] | (simp only [i64_w, i32_w]; rw [c103b0]) | skip)
          have H' := aM11 H
          clear H
          have hnb111 := NB574_566.out
          have hnc111 := NB566_574.out
          have hnb112 := NB574_567.out
          have hnc112 := NB567_574.out
          have hnb113 := NB574_579.out
          have hnc113 := NB579_574.out
          have hcz114_0 : w101.cell? ⟨gb574, 0, none⟩ = some (.int .u8 t588) := (blk_cell BK574.out 0).trans rfl
          have hcz114_1 : w101.cell? ⟨gb574, 1, none⟩ = some (.int .i64 t589) := (blk_cell BK574.out 1).trans rfl
          have hcz114_2 : w101.cell? ⟨gb574, 2, none⟩ = some (.string t590) := (blk_cell BK574.out 2).trans rfl
          have hfz114_0 := blk_frozen BK574.out 0
          have hfz114_1 := blk_frozen BK574.out 1
          have hfz114_2 := blk_frozen BK574.out 2
          have hnb115 := NB579_566.out
          have hnc115 := NB566_579.out
          have hnb116 := NB579_567.out
          have hnc116 := NB567_579.out
          have hcz117_0 : w101.cell? ⟨gb579, 0, none⟩ = some (.int .u8 t584) := (blk_cell BK579.out 0).trans rfl
          have hcz117_1 : w101.cell? ⟨gb579, 1, none⟩ = some (.int .i64 t585) := (blk_cell BK579.out 1).trans rfl
          have hcz117_2 : w101.cell? ⟨gb579, 2, none⟩ = some (.string t586) := (blk_cell BK579.out 2).trans rfl
          have hfz117_0 := blk_frozen BK579.out 0
          have hfz117_1 := blk_frozen BK579.out 1
          have hfz117_2 := blk_frozen BK579.out 2
          go_wp2
          go_meet
          case rel => exact ⟨_, ((t591 != t595)), (by first | rfl | (simp; done) | (simp [*]; done)), H', ⟨by have := HJ14.out; have := HJ54.out; first | omega | exact Nat.le_refl _⟩, ⟨by (with_reducible repeat (first | refine bN11 ?_ _ | refine bD11 ?_ | refine bA11 ?_ _ | refine bF11 ?_ NB566_579.out _)); exact BK566.out⟩, ⟨by (with_reducible repeat (first | refine bN11 ?_ _ | refine bD11 ?_ | refine bA11 ?_ _ | refine bF11 ?_ NB567_579.out _)); exact BK567.out⟩, ⟨by (with_reducible repeat (first | refine bN11 ?_ _ | refine bD11 ?_ | refine bA11 ?_ _ | refine bF11 ?_ NB574_579.out _)); exact BK574.out⟩, ⟨by (with_reducible repeat (first | refine bN11 ?_ _ | refine bD11 ?_ | refine bA11 ?_ _)); refine blk_put (cs := #[.int .u8 t592, .int .i64 t593, .string t586]) ?_ 2 _ rfl; (with_reducible repeat (first | refine bN11 ?_ _ | refine bD11 ?_ | refine bA11 ?_ _)); refine blk_put (cs := #[.int .u8 t592, .int .i64 t585, .string t586]) ?_ 1 _ rfl; (with_reducible repeat (first | refine bN11 ?_ _ | refine bD11 ?_ | refine bA11 ?_ _)); refine blk_put (cs := #[.int .u8 t584, .int .i64 t585, .string t586]) ?_ 0 _ rfl; (with_reducible repeat (first | refine bN11 ?_ _ | refine bD11 ?_ | refine bA11 ?_ _)); exact BK579.out⟩, ⟨by repeat (first | (with_reducible first | exact HB.out | apply below_alloc | apply pw_below_drewN | apply below_drew1 | refine bS11 ?_ GE566.out | refine bS11 ?_ GE567.out | refine bS11 ?_ GE574.out | refine bS11 ?_ GE579.out) | exact HB.out)⟩⟩
        case rest =>
         clear HC88
         try clear c1
         try clear c2
         try clear p2
         try clear c3
         try clear c4
         try clear c5
         try clear c6
         try clear c7
         try clear c8
         try clear c9
         try clear c10
         try clear c11
         try clear c18
         try clear c23
         try clear c24
         try clear c26
         try clear c27
         try clear c33
         try clear c34
         try clear c35
         try clear c37
         try clear c37b0
         try clear c38
         try clear c39
         try clear c40
         try clear c42
         try clear c43
         try clear c45
         try clear c46
         try clear c47
         try clear c49
         try clear c50
         try clear c51
         try clear c52
         try clear c53
         try clear c54
         try clear c56
         try clear c57
         try clear c58
         try clear c60
         try clear c61
         try clear c64
         try clear c70
         try clear c70b0
         try clear c71
         try clear c72
         try clear c73
         try clear c75
         try clear c76
         try clear c78
         try clear c79
         try clear c80
         try clear c82
         try clear c83
         try clear c85
         try clear c89
         try clear c90
         try clear c91
         try clear c93
         try clear c94
         try clear c97
         try clear c103
         try clear c103b0
         try clear c104
         try clear c105
         try clear c106
         try clear c108
         try clear c109
         try clear c111
         try clear c112
         try clear c113
         try clear c115
         try clear c116
         try clear hcz100_0
         try clear hcz100_1
         try clear hcz100_2
         try clear hcz102_0
         try clear hcz102_1
         try clear hcz102_2
         try clear hcz107_0
         try clear hcz107_1
         try clear hcz107_2
         try clear hcz10_0
         try clear hcz10_1
         try clear hcz10_2
         try clear hcz110_0
         try clear hcz110_1
         try clear hcz110_2
         try clear hcz114_0
         try clear hcz114_1
         try clear hcz114_2
         try clear hcz117_0
         try clear hcz117_1
         try clear hcz117_2
         try clear hcz19_0
         try clear hcz19_1
         try clear hcz19_2
         try clear hcz20_0
         try clear hcz20_1
         try clear hcz20_2
         try clear hcz22_0
         try clear hcz22_1
         try clear hcz22_2
         try clear hcz23_0
         try clear hcz23_1
         try clear hcz23_2
         try clear hcz28_0
         try clear hcz28_1
         try clear hcz28_2
         try clear hcz29_0
         try clear hcz29_1
         try clear hcz29_2
         try clear hcz30_0
         try clear hcz30_1
         try clear hcz30_2
         try clear hcz36_0
         try clear hcz36_1
         try clear hcz36_2
         try clear hcz41_0
         try clear hcz41_1
         try clear hcz41_2
         try clear hcz44_0
         try clear hcz44_1
         try clear hcz44_2
         try clear hcz48_0
         try clear hcz48_1
         try clear hcz48_2
         try clear hcz51_0
         try clear hcz51_1
         try clear hcz51_2
         try clear hcz59_0
         try clear hcz59_1
         try clear hcz59_2
         try clear hcz62_0
         try clear hcz62_1
         try clear hcz62_2
         try clear hcz65_0
         try clear hcz65_1
         try clear hcz65_2
         try clear hcz66_0
         try clear hcz66_1
         try clear hcz66_2
         try clear hcz67_0
         try clear hcz67_1
         try clear hcz67_2
         try clear hcz69_0
         try clear hcz69_1
         try clear hcz69_2
         try clear hcz74_0
         try clear hcz74_1
         try clear hcz74_2
         try clear hcz77_0
         try clear hcz77_1
         try clear hcz77_2
         try clear hcz81_0
         try clear hcz81_1
         try clear hcz81_2
         try clear hcz84_0
         try clear hcz84_1
         try clear hcz84_2
         try clear hcz92_0
         try clear hcz92_1
         try clear hcz92_2
         try clear hcz95_0
         try clear hcz95_1
         try clear hcz95_2
         try clear hcz98_0
         try clear hcz98_1
         try clear hcz98_2
         try clear hcz99_0
         try clear hcz99_1
         try clear hcz99_2
         try clear hcz9_0
         try clear hcz9_1
         try clear hcz9_2
         try clear hfz100_0
         try clear hfz100_1
         try clear hfz100_2
         try clear hfz102_0
         try clear hfz102_1
         try clear hfz102_2
         try clear hfz107_0
         try clear hfz107_1
         try clear hfz107_2
         try clear hfz10_0
         try clear hfz10_1
         try clear hfz10_2
         try clear hfz110_0
         try clear hfz110_1
         try clear hfz110_2
         try clear hfz114_0
         try clear hfz114_1
         try clear hfz114_2
         try clear hfz117_0
         try clear hfz117_1
         try clear hfz117_2
         try clear hfz19_0
         try clear hfz19_1
         try clear hfz19_2
         try clear hfz20_0
         try clear hfz20_1
         try clear hfz20_2
         try clear hfz22_0
         try clear hfz22_1
         try clear hfz22_2
         try clear hfz23_0
         try clear hfz23_1
         try clear hfz23_2
         try clear hfz28_0
         try clear hfz28_1
         try clear hfz28_2
         try clear hfz29_0
         try clear hfz29_1
         try clear hfz29_2
         try clear hfz30_0
         try clear hfz30_1
         try clear hfz30_2
         try clear hfz36_0
         try clear hfz36_1
         try clear hfz36_2
         try clear hfz41_0
         try clear hfz41_1
         try clear hfz41_2
         try clear hfz44_0
         try clear hfz44_1
         try clear hfz44_2
         try clear hfz48_0
         try clear hfz48_1
         try clear hfz48_2
         try clear hfz51_0
         try clear hfz51_1
         try clear hfz51_2
         try clear hfz59_0
         try clear hfz59_1
         try clear hfz59_2
         try clear hfz62_0
         try clear hfz62_1
         try clear hfz62_2
         try clear hfz65_0
         try clear hfz65_1
         try clear hfz65_2
         try clear hfz66_0
         try clear hfz66_1
         try clear hfz66_2
         try clear hfz67_0
         try clear hfz67_1
         try clear hfz67_2
         try clear hfz69_0
         try clear hfz69_1
         try clear hfz69_2
         try clear hfz74_0
         try clear hfz74_1
         try clear hfz74_2
         try clear hfz77_0
         try clear hfz77_1
         try clear hfz77_2
         try clear hfz81_0
         try clear hfz81_1
         try clear hfz81_2
         try clear hfz84_0
         try clear hfz84_1
         try clear hfz84_2
         try clear hfz92_0
         try clear hfz92_1
         try clear hfz92_2
         try clear hfz95_0
         try clear hfz95_1
         try clear hfz95_2
         try clear hfz98_0
         try clear hfz98_1
         try clear hfz98_2
         try clear hfz99_0
         try clear hfz99_1
         try clear hfz99_2
         try clear hfz9_0
         try clear hfz9_1
         try clear hfz9_2
         try clear p2
         obtain ⟨kq, x72_87, rfl, HA, HJ87, BK566, BK567, BK574, BK579, HB⟩ := hcut
         cases kq with
         | zero => exact absurd HA.out (by simp [hindsightlaw02_CellSums.j2])
         | succ kj87 =>
          have H := HA.out
          clear HA
          simp only [hindsightlaw02_CellSums.j2] at H
          by_cases c118 : x72_87 = true
          ·subst c118
           have H1 : (none) = some r := by rw [if_pos rfl] at H; exact H
           clear H
           have H := H1
           clear H1
           exact absurd H (by simp)
          ·replace c118 := Bool.eq_false_iff.mpr c118
           subst c118
           have H1 : ((cell_Div.f kj87 a0_0 a0_1 a0_2 a1_0 a1_1 a1_2).bind fun bt596 => ((hindsightref02_Div.f kj87 a0_0 a0_1 a0_2 a1_0 a1_1 a1_2 false).bind fun bt600 => (if (!(bt596.1 == bt600.1) || (!(bt596.2.1 == bt600.2.1) || (!(bt596.2.2.1.toList == bt600.2.2.1.toList)))) = true then (hindsightlaw02_CellSums.j3 kj87 true a0_0 a0_1 a0_2 a1_0 a1_1 a1_2) else (hindsightlaw02_CellSums.j3 kj87 (bt596.2.2.2 != bt600.2.2.2) a0_0 a0_1 a0_2 a1_0 a1_1 a1_2)))) = some r := by rw [if_neg (show ¬ (false = true) by decide)] at H; exact H
           clear H
           have H := H1
           clear H1
           replace H := Option.bind_eq_some_iff.mp H
           obtain ⟨⟨t596, t597, t598, t599⟩, A1190, H⟩ := H
           replace H : ((hindsightref02_Div.f kj87 a0_0 a0_1 a0_2 a1_0 a1_1 a1_2 false).bind fun bt600 => (if (!(t596 == bt600.1) || (!(t597 == bt600.2.1) || (!(t598.toList == bt600.2.2.1.toList)))) = true then (hindsightlaw02_CellSums.j3 kj87 true a0_0 a0_1 a0_2 a1_0 a1_1 a1_2) else (hindsightlaw02_CellSums.j3 kj87 (t599 != bt600.2.2.2) a0_0 a0_1 a0_2 a1_0 a1_1 a1_2))) = some r := H
           have A119 := aM11 A1190
           clear A1190
           replace H := Option.bind_eq_some_iff.mp H
           obtain ⟨⟨t600, t601, t602, t603⟩, A1200, H⟩ := H
           replace H : (if (!(t596 == t600) || (!(t597 == t601) || (!(t598.toList == t602.toList)))) = true then (hindsightlaw02_CellSums.j3 kj87 true a0_0 a0_1 a0_2 a1_0 a1_1 a1_2) else (hindsightlaw02_CellSums.j3 kj87 (t599 != t603) a0_0 a0_1 a0_2 a1_0 a1_1 a1_2)) = some r := H
           have A120 := aM11 A1200
           clear A1200
           have HC121 := aM11 H
           clear H
           have hnb122 := NB566_567.out
           have hnc122 := NB567_566.out
           have hnb123 := NB566_574.out
           have hnc123 := NB574_566.out
           have hnb124 := NB566_579.out
           have hnc124 := NB579_566.out
           have hcz125_0 : wc.cell? ⟨gb566, 0, none⟩ = some (.int .u8 a0_0) := (blk_cell BK566.out 0).trans rfl
           have hcz125_1 : wc.cell? ⟨gb566, 1, none⟩ = some (.int .i64 a0_1) := (blk_cell BK566.out 1).trans rfl
           have hcz125_2 : wc.cell? ⟨gb566, 2, none⟩ = some (.string a0_2) := (blk_cell BK566.out 2).trans rfl
           have hfz125_0 := blk_frozen BK566.out 0
           have hfz125_1 := blk_frozen BK566.out 1
           have hfz125_2 := blk_frozen BK566.out 2
           have hnb126 := NB567_574.out
           have hnc126 := NB574_567.out
           have hnb127 := NB567_579.out
           have hnc127 := NB579_567.out
           have hcz128_0 : wc.cell? ⟨gb567, 0, none⟩ = some (.int .u8 a1_0) := (blk_cell BK567.out 0).trans rfl
           have hcz128_1 : wc.cell? ⟨gb567, 1, none⟩ = some (.int .i64 a1_1) := (blk_cell BK567.out 1).trans rfl
           have hcz128_2 : wc.cell? ⟨gb567, 2, none⟩ = some (.string a1_2) := (blk_cell BK567.out 2).trans rfl
           have hfz128_0 := blk_frozen BK567.out 0
           have hfz128_1 := blk_frozen BK567.out 1
           have hfz128_2 := blk_frozen BK567.out 2
           go_upto_region 17 with (first | ((with_reducible refine gate_callee (f := 55) rfl ?_); refine goesL_ (some 76) rfl rfl Try.func55 (by kernel_rfl) rfl #[.agg #[.int .u8 a0_0, .int .i64 a0_1, .string a0_2], .agg #[.int .u8 a1_0, .int .i64 a1_1, .string a1_2]] rfl (by (try simp only [List.map_toArray, List.map_cons, List.map_nil]); first | done | rfl | (simp only [List.length_drop, List.length_take]; rfl)) ?_; (with_reducible refine (cell_Div.calls kj87 a0_0 a0_1 a0_2 a1_0 a1_1 a1_2 t596 t597 t598 t599 _ A119.out).mono ?_); rintro e w129 ⟨rfl, hb⟩; refine ⟨_, rfl, ?_⟩; have n0_ := aM11 (bB11 (g := gb566) (o := .cells #[.int .u8 a0_0, .int .i64 a0_1, .string a0_2] 35 (0, 0)) (by (with_reducible repeat (first | refine bN11 ?_ _ | refine bD11 ?_ | refine bA11 ?_ _)); exact BK566.out) hb); have n1_ := aM11 (bB11 (g := gb567) (o := .cells #[.int .u8 a1_0, .int .i64 a1_1, .string a1_2] 35 (0, 0)) (by (with_reducible repeat (first | refine bN11 ?_ _ | refine bD11 ?_ | refine bA11 ?_ _)); exact BK567.out) hb); have n2_ := aM11 (bB11 (g := gb574) (o := .cells #[.int .u8 t588, .int .i64 t589, .string t590] 35 (0, 0)) (by (with_reducible repeat (first | refine bN11 ?_ _ | refine bD11 ?_ | refine bA11 ?_ _)); exact BK574.out) hb); have n3_ := aM11 (bB11 (g := gb579) (o := .cells #[.int .u8 t592, .int .i64 t593, .string t594] 35 (0, 0)) (by (with_reducible repeat (first | refine bN11 ?_ _ | refine bD11 ?_ | refine bA11 ?_ _)); exact BK579.out) hb); have n4_ := aM11 (below_step (by repeat (first | (with_reducible first | exact HB.out | apply below_alloc | apply pw_below_drewN | apply below_drew1 | refine bS11 ?_ GE566.out | refine bS11 ?_ GE567.out | refine bS11 ?_ GE574.out | refine bS11 ?_ GE579.out) | exact HB.out)) hb); clear BK566; clear BK567; clear BK574; clear BK579; clear HB; have BK566 := n0_; have BK567 := n1_; have BK574 := n2_; have BK579 := n3_; have HB := n4_; clear n0_ n1_ n2_ n3_ n4_; (try clear hb); (try clear hb2); (try clear hk); (try clear hi); have hnb130 := NB574_579.out; have hnc130 := NB579_574.out; have hcz131_0 : w129.cell? ⟨gb574, 0, none⟩ = some (.int .u8 t588) := (blk_cell BK574.out 0).trans rfl; have hcz131_1 : w129.cell? ⟨gb574, 1, none⟩ = some (.int .i64 t589) := (blk_cell BK574.out 1).trans rfl; have hcz131_2 : w129.cell? ⟨gb574, 2, none⟩ = some (.string t590) := (blk_cell BK574.out 2).trans rfl; have hfz131_0 := blk_frozen BK574.out 0; have hfz131_1 := blk_frozen BK574.out 1; have hfz131_2 := blk_frozen BK574.out 2; have hcz132_0 : w129.cell? ⟨gb566, 0, none⟩ = some (.int .u8 a0_0) := (blk_cell BK566.out 0).trans rfl; have hcz132_1 : w129.cell? ⟨gb566, 1, none⟩ = some (.int .i64 a0_1) := (blk_cell BK566.out 1).trans rfl; have hcz132_2 : w129.cell? ⟨gb566, 2, none⟩ = some (.string a0_2) := (blk_cell BK566.out 2).trans rfl; have hfz132_0 := blk_frozen BK566.out 0; have hfz132_1 := blk_frozen BK566.out 1; have hfz132_2 := blk_frozen BK566.out 2; have hcz133_0 : w129.cell? ⟨gb567, 0, none⟩ = some (.int .u8 a1_0) := (blk_cell BK567.out 0).trans rfl; have hcz133_1 : w129.cell? ⟨gb567, 1, none⟩ = some (.int .i64 a1_1) := (blk_cell BK567.out 1).trans rfl; have hcz133_2 : w129.cell? ⟨gb567, 2, none⟩ = some (.string a1_2) := (blk_cell BK567.out 2).trans rfl; have hfz133_0 := blk_frozen BK567.out 0; have hfz133_1 := blk_frozen BK567.out 1; have hfz133_2 := blk_frozen BK567.out 2) | ((with_reducible refine gate_callee (f := 56) rfl ?_); refine goesL_ (some 82) rfl rfl Try.func56 (by kernel_rfl) rfl #[.agg #[.int .u8 a0_0, .int .i64 a0_1, .string a0_2], .agg #[.int .u8 a1_0, .int .i64 a1_1, .string a1_2], .bool false] rfl (by (try simp only [List.map_toArray, List.map_cons, List.map_nil]); first | done | rfl | (simp only [List.length_drop, List.length_take]; rfl)) ?_; (with_reducible refine (hindsightref02_Div.calls kj87 a0_0 a0_1 a0_2 a1_0 a1_1 a1_2 false t600 t601 t602 t603 _ A120.out).mono ?_); rintro e w134 ⟨rfl, hb⟩; refine ⟨_, rfl, ?_⟩; have n0_ := aM11 (bB11 (g := gb566) (o := .cells #[.int .u8 a0_0, .int .i64 a0_1, .string a0_2] 35 (0, 0)) (by (with_reducible repeat (first | refine bN11 ?_ _ | refine bD11 ?_ | refine bA11 ?_ _ | refine bF11 ?_ NB566_574.out _)); exact BK566.out) hb); have n1_ := aM11 (bB11 (g := gb567) (o := .cells #[.int .u8 a1_0, .int .i64 a1_1, .string a1_2] 35 (0, 0)) (by (with_reducible repeat (first | refine bN11 ?_ _ | refine bD11 ?_ | refine bA11 ?_ _ | refine bF11 ?_ NB567_574.out _)); exact BK567.out) hb); have n2_ := aM11 (bB11 (g := gb574) (o := .cells #[.int .u8 t596, .int .i64 t597, .string t598] 35 (0, 0)) (by (with_reducible repeat (first | refine bN11 ?_ _ | refine bD11 ?_ | refine bA11 ?_ _)); refine blk_put (cs := #[.int .u8 t596, .int .i64 t597, .string t590]) ?_ 2 _ rfl; (with_reducible repeat (first | refine bN11 ?_ _ | refine bD11 ?_ | refine bA11 ?_ _)); refine blk_put (cs := #[.int .u8 t596, .int .i64 t589, .string t590]) ?_ 1 _ rfl; (with_reducible repeat (first | refine bN11 ?_ _ | refine bD11 ?_ | refine bA11 ?_ _)); refine blk_put (cs := #[.int .u8 t588, .int .i64 t589, .string t590]) ?_ 0 _ rfl; (with_reducible repeat (first | refine bN11 ?_ _ | refine bD11 ?_ | refine bA11 ?_ _)); exact BK574.out) hb); have n3_ := aM11 (bB11 (g := gb579) (o := .cells #[.int .u8 t592, .int .i64 t593, .string t594] 35 (0, 0)) (by (with_reducible repeat (first | refine bN11 ?_ _ | refine bD11 ?_ | refine bA11 ?_ _ | refine bF11 ?_ NB579_574.out _)); exact BK579.out) hb); have n4_ := aM11 (below_step (by repeat (first | (with_reducible first | exact HB.out | apply below_alloc | apply pw_below_drewN | apply below_drew1 | refine bS11 ?_ GE566.out | refine bS11 ?_ GE567.out | refine bS11 ?_ GE574.out | refine bS11 ?_ GE579.out) | exact HB.out)) hb); clear BK566; clear BK567; clear BK574; clear BK579; clear HB; have BK566 := n0_; have BK567 := n1_; have BK574 := n2_; have BK579 := n3_; have HB := n4_; clear n0_ n1_ n2_ n3_ n4_; (try clear hb); (try clear hb2); (try clear hk); (try clear hi); have hcz135_0 : w134.cell? ⟨gb579, 0, none⟩ = some (.int .u8 t592) := (blk_cell BK579.out 0).trans rfl; have hcz135_1 : w134.cell? ⟨gb579, 1, none⟩ = some (.int .i64 t593) := (blk_cell BK579.out 1).trans rfl; have hcz135_2 : w134.cell? ⟨gb579, 2, none⟩ = some (.string t594) := (blk_cell BK579.out 2).trans rfl; have hfz135_0 := blk_frozen BK579.out 0; have hfz135_1 := blk_frozen BK579.out 1; have hfz135_2 := blk_frozen BK579.out 2))
           (try simp only [Act.put, List.setIfInBounds_toArray, List.set_cons_zero, List.set_cons_succ])
           go_cut [92] (fun v92 wc => ∃ (kq : Nat) (x92_120 : Bool), v92 = .bool x92_120 ∧ Aside0 (hindsightlaw02_CellSums.j3 kq x92_120 a0_0 a0_1 a0_2 a1_0 a1_1 a1_2 = some r) ∧ Aside0 (kq ≤ kj87) ∧ Aside0 (wc.heap[gb566]? = some (.cells #[.int .u8 a0_0, .int .i64 a0_1, .string a0_2] 35 (0, 0))) ∧ Aside0 (wc.heap[gb567]? = some (.cells #[.int .u8 a1_0, .int .i64 a1_1, .string a1_2] 35 (0, 0))) ∧ Aside0 (wc.heap[gb574]? = some (.cells #[.int .u8 t596, .int .i64 t597, .string t598] 35 (0, 0))) ∧ Aside0 (wc.heap[gb579]? = some (.cells #[.int .u8 t600, .int .i64 t601, .string t602] 35 (0, 0))) ∧ Aside0 (Below w.heap.size w wc))
           case first =>
            have H := HC121.out
            clear HC121
            by_cases c136 : (!(t596 == t600) || (!(t597 == t601) || (!(t598.toList == t602.toList)))) = true
            ·rw [if_pos c136] at H
             have c136b0 : (!(t596 == t600) || (!(t597 == t601) || (!(t598.toList == t602.toList)))) = true := c136
             clear c136
             (first | rw [c136b0] | (simp only [i64_w, i32_w]; rw [c136b0]) | skip)
             have H' := aM11 H
             clear H
             have hnb137 := NB574_566.out
             have hnc137 := NB566_574.out
             have hnb138 := NB574_567.out
             have hnc138 := NB567_574.out
             have hnb139 := NB574_579.out
             have hnc139 := NB579_574.out
             have hcz140_0 : w134.cell? ⟨gb574, 0, none⟩ = some (.int .u8 t596) := (blk_cell BK574.out 0).trans rfl
             have hcz140_1 : w134.cell? ⟨gb574, 1, none⟩ = some (.int .i64 t597) := (blk_cell BK574.out 1).trans rfl
             have hcz140_2 : w134.cell? ⟨gb574, 2, none⟩ = some (.string t598) := (blk_cell BK574.out 2).trans rfl
             have hfz140_0 := blk_frozen BK574.out 0
             have hfz140_1 := blk_frozen BK574.out 1
             have hfz140_2 := blk_frozen BK574.out 2
             have hnb141 := NB579_566.out
             have hnc141 := NB566_579.out
             have hnb142 := NB579_567.out
             have hnc142 := NB567_579.out
             have hcz143_0 : w134.cell? ⟨gb579, 0, none⟩ = some (.int .u8 t592) := (blk_cell BK579.out 0).trans rfl
             have hcz143_1 : w134.cell? ⟨gb579, 1, none⟩ = some (.int .i64 t593) := (blk_cell BK579.out 1).trans rfl
             have hcz143_2 : w134.cell? ⟨gb579, 2, none⟩ = some (.string t594) := (blk_cell BK579.out 2).trans rfl
             have hfz143_0 := blk_frozen BK579.out 0
             have hfz143_1 := blk_frozen BK579.out 1
             have hfz143_2 := blk_frozen BK579.out 2
             go_wp2
             go_meet
             case rel => exact ⟨_, (true), (by first | rfl | (simp; done) | (simp [*]; done)), H', ⟨by have := HJ14.out; have := HJ54.out; have := HJ87.out; first | omega | exact Nat.le_refl _⟩, ⟨by (with_reducible repeat (first | refine bN11 ?_ _ | refine bD11 ?_ | refine bA11 ?_ _ | refine bF11 ?_ NB566_579.out _)); exact BK566.out⟩, ⟨by (with_reducible repeat (first | refine bN11 ?_ _ | refine bD11 ?_ | refine bA11 ?_ _ | refine bF11 ?_ NB567_579.out _)); exact BK567.out⟩, ⟨by (with_reducible repeat (first | refine bN11 ?_ _ | refine bD11 ?_ | refine bA11 ?_ _ | refine bF11 ?_ NB574_579.out _)); exact BK574.out⟩, ⟨by (with_reducible repeat (first | refine bN11 ?_ _ | refine bD11 ?_ | refine bA11 ?_ _)); refine blk_put (cs := #[.int .u8 t600, .int .i64 t601, .string t594]) ?_ 2 _ rfl; (with_reducible repeat (first | refine bN11 ?_ _ | refine bD11 ?_ | refine bA11 ?_ _)); refine blk_put (cs := #[.int .u8 t600, .int .i64 t593, .string t594]) ?_ 1 _ rfl; (with_reducible repeat (first | refine bN11 ?_ _ | refine bD11 ?_ | refine bA11 ?_ _)); refine blk_put (cs := #[.int .u8 t592, .int .i64 t593, .string t594]) ?_ 0 _ rfl; (with_reducible repeat (first | refine bN11 ?_ _ | refine bD11 ?_ | refine bA11 ?_ _)); exact BK579.out⟩, ⟨by repeat (first | (with_reducible first | exact HB.out | apply below_alloc | apply pw_below_drewN | apply below_drew1 | refine bS11 ?_ GE566.out | refine bS11 ?_ GE567.out | refine bS11 ?_ GE574.out | refine bS11 ?_ GE579.out) | exact HB.out)⟩⟩
            ·rw [if_neg c136] at H
             have c136b0 : (!(t596 == t600) || (!(t597 == t601) || (!(t598.toList == t602.toList)))) = false := by simpa using c136
             clear c136
             (first | rw [c136b0] | (simp only [i64_w, i32_w]; rw [c136b0]) | skip)
             have H' := aM11 H
             clear H
             have hnb144 := NB574_566.out
             have hnc144 := NB566_574.out
             have hnb145 := NB574_567.out
             have hnc145 := NB567_574.out
             have hnb146 := NB574_579.out
             have hnc146 := NB579_574.out
             have hcz147_0 : w134.cell? ⟨gb574, 0, none⟩ = some (.int .u8 t596) := (blk_cell BK574.out 0).trans rfl
             have hcz147_1 : w134.cell? ⟨gb574, 1, none⟩ = some (.int .i64 t597) := (blk_cell BK574.out 1).trans rfl
             have hcz147_2 : w134.cell? ⟨gb574, 2, none⟩ = some (.string t598) := (blk_cell BK574.out 2).trans rfl
             have hfz147_0 := blk_frozen BK574.out 0
             have hfz147_1 := blk_frozen BK574.out 1
             have hfz147_2 := blk_frozen BK574.out 2
             have hnb148 := NB579_566.out
             have hnc148 := NB566_579.out
             have hnb149 := NB579_567.out
             have hnc149 := NB567_579.out
             have hcz150_0 : w134.cell? ⟨gb579, 0, none⟩ = some (.int .u8 t592) := (blk_cell BK579.out 0).trans rfl
             have hcz150_1 : w134.cell? ⟨gb579, 1, none⟩ = some (.int .i64 t593) := (blk_cell BK579.out 1).trans rfl
             have hcz150_2 : w134.cell? ⟨gb579, 2, none⟩ = some (.string t594) := (blk_cell BK579.out 2).trans rfl
             have hfz150_0 := blk_frozen BK579.out 0
             have hfz150_1 := blk_frozen BK579.out 1
             have hfz150_2 := blk_frozen BK579.out 2
             go_wp2
             go_meet
             case rel => exact ⟨_, ((t599 != t603)), (by first | rfl | (simp; done) | (simp [*]; done)), H', ⟨by have := HJ14.out; have := HJ54.out; have := HJ87.out; first | omega | exact Nat.le_refl _⟩, ⟨by (with_reducible repeat (first | refine bN11 ?_ _ | refine bD11 ?_ | refine bA11 ?_ _ | refine bF11 ?_ NB566_579.out _)); exact BK566.out⟩, ⟨by (with_reducible repeat (first | refine bN11 ?_ _ | refine bD11 ?_ | refine bA11 ?_ _ | refine bF11 ?_ NB567_579.out _)); exact BK567.out⟩, ⟨by (with_reducible repeat (first | refine bN11 ?_ _ | refine bD11 ?_ | refine bA11 ?_ _ | refine bF11 ?_ NB574_579.out _)); exact BK574.out⟩, ⟨by (with_reducible repeat (first | refine bN11 ?_ _ | refine bD11 ?_ | refine bA11 ?_ _)); refine blk_put (cs := #[.int .u8 t600, .int .i64 t601, .string t594]) ?_ 2 _ rfl; (with_reducible repeat (first | refine bN11 ?_ _ | refine bD11 ?_ | refine bA11 ?_ _)); refine blk_put (cs := #[.int .u8 t600, .int .i64 t593, .string t594]) ?_ 1 _ rfl; (with_reducible repeat (first | refine bN11 ?_ _ | refine bD11 ?_ | refine bA11 ?_ _)); refine blk_put (cs := #[.int .u8 t592, .int .i64 t593, .string t594]) ?_ 0 _ rfl; (with_reducible repeat (first | refine bN11 ?_ _ | refine bD11 ?_ | refine bA11 ?_ _)); exact BK579.out⟩, ⟨by repeat (first | (with_reducible first | exact HB.out | apply below_alloc | apply pw_below_drewN | apply below_drew1 | refine bS11 ?_ GE566.out | refine bS11 ?_ GE567.out | refine bS11 ?_ GE574.out | refine bS11 ?_ GE579.out) | exact HB.out)⟩⟩
           case rest =>
            clear HC121
            try clear c1
            try clear c2
            try clear p2
            try clear c3
            try clear c4
            try clear c5
            try clear c6
            try clear c7
            try clear c8
            try clear c9
            try clear c10
            try clear c11
            try clear c12
            try clear c13
            try clear c14
            try clear c18
            try clear c23
            try clear c24
            try clear c26
            try clear c27
            try clear c33
            try clear c34
            try clear c35
            try clear c37
            try clear c37b0
            try clear c38
            try clear c39
            try clear c40
            try clear c42
            try clear c43
            try clear c45
            try clear c46
            try clear c47
            try clear c49
            try clear c50
            try clear c51
            try clear c52
            try clear c53
            try clear c54
            try clear c55
            try clear c56
            try clear c57
            try clear c58
            try clear c60
            try clear c61
            try clear c64
            try clear c70
            try clear c70b0
            try clear c71
            try clear c72
            try clear c73
            try clear c75
            try clear c76
            try clear c78
            try clear c79
            try clear c80
            try clear c82
            try clear c83
            try clear c85
            try clear c89
            try clear c90
            try clear c91
            try clear c93
            try clear c94
            try clear c97
            try clear c103
            try clear c103b0
            try clear c104
            try clear c105
            try clear c106
            try clear c108
            try clear c109
            try clear c111
            try clear c112
            try clear c113
            try clear c115
            try clear c116
            try clear c118
            try clear c122
            try clear c123
            try clear c124
            try clear c126
            try clear c127
            try clear c130
            try clear c136
            try clear c136b0
            try clear c137
            try clear c138
            try clear c139
            try clear c141
            try clear c142
            try clear c144
            try clear c145
            try clear c146
            try clear c148
            try clear c149
            try clear hcz100_0
            try clear hcz100_1
            try clear hcz100_2
            try clear hcz102_0
            try clear hcz102_1
            try clear hcz102_2
            try clear hcz107_0
            try clear hcz107_1
            try clear hcz107_2
            try clear hcz10_0
            try clear hcz10_1
            try clear hcz10_2
            try clear hcz110_0
            try clear hcz110_1
            try clear hcz110_2
            try clear hcz114_0
            try clear hcz114_1
            try clear hcz114_2
            try clear hcz117_0
            try clear hcz117_1
            try clear hcz117_2
            try clear hcz125_0
            try clear hcz125_1
            try clear hcz125_2
            try clear hcz128_0
            try clear hcz128_1
            try clear hcz128_2
            try clear hcz131_0
            try clear hcz131_1
            try clear hcz131_2
            try clear hcz132_0
            try clear hcz132_1
            try clear hcz132_2
            try clear hcz133_0
            try clear hcz133_1
            try clear hcz133_2
            try clear hcz135_0
            try clear hcz135_1
            try clear hcz135_2
            try clear hcz140_0
            try clear hcz140_1
            try clear hcz140_2
            try clear hcz143_0
            try clear hcz143_1
            try clear hcz143_2
            try clear hcz147_0
            try clear hcz147_1
            try clear hcz147_2
            try clear hcz150_0
            try clear hcz150_1
            try clear hcz150_2
            try clear hcz19_0
            try clear hcz19_1
            try clear hcz19_2
            try clear hcz20_0
            try clear hcz20_1
            try clear hcz20_2
            try clear hcz22_0
            try clear hcz22_1
            try clear hcz22_2
            try clear hcz23_0
            try clear hcz23_1
            try clear hcz23_2
            try clear hcz28_0
            try clear hcz28_1
            try clear hcz28_2
            try clear hcz29_0
            try clear hcz29_1
            try clear hcz29_2
            try clear hcz30_0
            try clear hcz30_1
            try clear hcz30_2
            try clear hcz36_0
            try clear hcz36_1
            try clear hcz36_2
            try clear hcz41_0
            try clear hcz41_1
            try clear hcz41_2
            try clear hcz44_0
            try clear hcz44_1
            try clear hcz44_2
            try clear hcz48_0
            try clear hcz48_1
            try clear hcz48_2
            try clear hcz51_0
            try clear hcz51_1
            try clear hcz51_2
            try clear hcz59_0
            try clear hcz59_1
            try clear hcz59_2
            try clear hcz62_0
            try clear hcz62_1
            try clear hcz62_2
            try clear hcz65_0
            try clear hcz65_1
            try clear hcz65_2
            try clear hcz66_0
            try clear hcz66_1
            try clear hcz66_2
            try clear hcz67_0
            try clear hcz67_1
            try clear hcz67_2
            try clear hcz69_0
            try clear hcz69_1
            try clear hcz69_2
            try clear hcz74_0
            try clear hcz74_1
            try clear hcz74_2
            try clear hcz77_0
            try clear hcz77_1
            try clear hcz77_2
            try clear hcz81_0
            try clear hcz81_1
            try clear hcz81_2
            try clear hcz84_0
            try clear hcz84_1
            try clear hcz84_2
            try clear hcz92_0
            try clear hcz92_1
            try clear hcz92_2
            try clear hcz95_0
            try clear hcz95_1
            try clear hcz95_2
            try clear hcz98_0
            try clear hcz98_1
            try clear hcz98_2
            try clear hcz99_0
            try clear hcz99_1
            try clear hcz99_2
            try clear hcz9_0
            try clear hcz9_1
            try clear hcz9_2
            try clear hfz100_0
            try clear hfz100_1
            try clear hfz100_2
            try clear hfz102_0
            try clear hfz102_1
            try clear hfz102_2
            try clear hfz107_0
            try clear hfz107_1
            try clear hfz107_2
            try clear hfz10_0
            try clear hfz10_1
            try clear hfz10_2
            try clear hfz110_0
            try clear hfz110_1
            try clear hfz110_2
            try clear hfz114_0
            try clear hfz114_1
            try clear hfz114_2
            try clear hfz117_0
            try clear hfz117_1
            try clear hfz117_2
            try clear hfz125_0
            try clear hfz125_1
            try clear hfz125_2
            try clear hfz128_0
            try clear hfz128_1
            try clear hfz128_2
            try clear hfz131_0
            try clear hfz131_1
            try clear hfz131_2
            try clear hfz132_0
            try clear hfz132_1
            try clear hfz132_2
            try clear hfz133_0
            try clear hfz133_1
            try clear hfz133_2
            try clear hfz135_0
            try clear hfz135_1
            try clear hfz135_2
            try clear hfz140_0
            try clear hfz140_1
            try clear hfz140_2
            try clear hfz143_0
            try clear hfz143_1
            try clear hfz143_2
            try clear hfz147_0
            try clear hfz147_1
            try clear hfz147_2
            try clear hfz150_0
            try clear hfz150_1
            try clear hfz150_2
            try clear hfz19_0
            try clear hfz19_1
            try clear hfz19_2
            try clear hfz20_0
            try clear hfz20_1
            try clear hfz20_2
            try clear hfz22_0
            try clear hfz22_1
            try clear hfz22_2
            try clear hfz23_0
            try clear hfz23_1
            try clear hfz23_2
            try clear hfz28_0
            try clear hfz28_1
            try clear hfz28_2
            try clear hfz29_0
            try clear hfz29_1
            try clear hfz29_2
            try clear hfz30_0
            try clear hfz30_1
            try clear hfz30_2
            try clear hfz36_0
            try clear hfz36_1
            try clear hfz36_2
            try clear hfz41_0
            try clear hfz41_1
            try clear hfz41_2
            try clear hfz44_0
            try clear hfz44_1
            try clear hfz44_2
            try clear hfz48_0
            try clear hfz48_1
            try clear hfz48_2
            try clear hfz51_0
            try clear hfz51_1
            try clear hfz51_2
            try clear hfz59_0
            try clear hfz59_1
            try clear hfz59_2
            try clear hfz62_0
            try clear hfz62_1
            try clear hfz62_2
            try clear hfz65_0
            try clear hfz65_1
            try clear hfz65_2
            try clear hfz66_0
            try clear hfz66_1
            try clear hfz66_2
            try clear hfz67_0
            try clear hfz67_1
            try clear hfz67_2
            try clear hfz69_0
            try clear hfz69_1
            try clear hfz69_2
            try clear hfz74_0
            try clear hfz74_1
            try clear hfz74_2
            try clear hfz77_0
            try clear hfz77_1
            try clear hfz77_2
            try clear hfz81_0
            try clear hfz81_1
            try clear hfz81_2
            try clear hfz84_0
            try clear hfz84_1
            try clear hfz84_2
            try clear hfz92_0
            try clear hfz92_1
            try clear hfz92_2
            try clear hfz95_0
            try clear hfz95_1
            try clear hfz95_2
            try clear hfz98_0
            try clear hfz98_1
            try clear hfz98_2
            try clear hfz99_0
            try clear hfz99_1
            try clear hfz99_2
            try clear hfz9_0
            try clear hfz9_1
            try clear hfz9_2
            try clear p2
            obtain ⟨kq, x92_120, rfl, HA, HJ120, BK566, BK567, BK574, BK579, HB⟩ := hcut
            cases kq with
            | zero => exact absurd HA.out (by simp [hindsightlaw02_CellSums.j3])
            | succ kj120 =>
             have H := HA.out
             clear HA
             simp only [hindsightlaw02_CellSums.j3] at H
             by_cases c151 : x92_120 = true
             ·subst c151
              have H1 : (none) = some r := by rw [if_pos rfl] at H; exact H
              clear H
              have H := H1
              clear H1
              exact absurd H (by simp)
             ·replace c151 := Bool.eq_false_iff.mpr c151
              subst c151
              have H1 : ((cell_Mod.f kj120 a0_0 a0_1 a0_2 a1_0 a1_1 a1_2).bind fun bt604 => ((hindsightref02_Div.f kj120 a0_0 a0_1 a0_2 a1_0 a1_1 a1_2 true).bind fun bt608 => (if (!(bt604.1 == bt608.1) || (!(bt604.2.1 == bt608.2.1) || (!(bt604.2.2.1.toList == bt608.2.2.1.toList)))) = true then (hindsightlaw02_CellSums.j4 kj120 true a0_0 a0_1 a0_2) else (hindsightlaw02_CellSums.j4 kj120 (bt604.2.2.2 != bt608.2.2.2) a0_0 a0_1 a0_2)))) = some r := by rw [if_neg (show ¬ (false = true) by decide)] at H; exact H
              clear H
              have H := H1
              clear H1
              replace H := Option.bind_eq_some_iff.mp H
              obtain ⟨⟨t604, t605, t606, t607⟩, A1520, H⟩ := H
              replace H : ((hindsightref02_Div.f kj120 a0_0 a0_1 a0_2 a1_0 a1_1 a1_2 true).bind fun bt608 => (if (!(t604 == bt608.1) || (!(t605 == bt608.2.1) || (!(t606.toList == bt608.2.2.1.toList)))) = true then (hindsightlaw02_CellSums.j4 kj120 true a0_0 a0_1 a0_2) else (hindsightlaw02_CellSums.j4 kj120 (t607 != bt608.2.2.2) a0_0 a0_1 a0_2))) = some r := H
              have A152 := aM11 A1520
              clear A1520
              replace H := Option.bind_eq_some_iff.mp H
              obtain ⟨⟨t608, t609, t610, t611⟩, A1530, H⟩ := H
              replace H : (if (!(t604 == t608) || (!(t605 == t609) || (!(t606.toList == t610.toList)))) = true then (hindsightlaw02_CellSums.j4 kj120 true a0_0 a0_1 a0_2) else (hindsightlaw02_CellSums.j4 kj120 (t607 != t611) a0_0 a0_1 a0_2)) = some r := H
              have A153 := aM11 A1530
              clear A1530
              have HC154 := aM11 H
              clear H
              have hnb155 := NB566_567.out
              have hnc155 := NB567_566.out
              have hnb156 := NB566_574.out
              have hnc156 := NB574_566.out
              have hnb157 := NB566_579.out
              have hnc157 := NB579_566.out
              have hcz158_0 : wc.cell? ⟨gb566, 0, none⟩ = some (.int .u8 a0_0) := (blk_cell BK566.out 0).trans rfl
              have hcz158_1 : wc.cell? ⟨gb566, 1, none⟩ = some (.int .i64 a0_1) := (blk_cell BK566.out 1).trans rfl
              have hcz158_2 : wc.cell? ⟨gb566, 2, none⟩ = some (.string a0_2) := (blk_cell BK566.out 2).trans rfl
              have hfz158_0 := blk_frozen BK566.out 0
              have hfz158_1 := blk_frozen BK566.out 1
              have hfz158_2 := blk_frozen BK566.out 2
              have hnb159 := NB567_574.out
              have hnc159 := NB574_567.out
              have hnb160 := NB567_579.out
              have hnc160 := NB579_567.out
              have hcz161_0 : wc.cell? ⟨gb567, 0, none⟩ = some (.int .u8 a1_0) := (blk_cell BK567.out 0).trans rfl
              have hcz161_1 : wc.cell? ⟨gb567, 1, none⟩ = some (.int .i64 a1_1) := (blk_cell BK567.out 1).trans rfl
              have hcz161_2 : wc.cell? ⟨gb567, 2, none⟩ = some (.string a1_2) := (blk_cell BK567.out 2).trans rfl
              have hfz161_0 := blk_frozen BK567.out 0
              have hfz161_1 := blk_frozen BK567.out 1
              have hfz161_2 := blk_frozen BK567.out 2
              go_upto_region 21 with (first | ((with_reducible refine gate_callee (f := 57) rfl ?_); refine goesL_ (some 96) rfl rfl Try.func57 (by kernel_rfl) rfl #[.agg #[.int .u8 a0_0, .int .i64 a0_1, .string a0_2], .agg #[.int .u8 a1_0, .int .i64 a1_1, .string a1_2]] rfl (by (try simp only [List.map_toArray, List.map_cons, List.map_nil]); first | done | rfl | (simp only [List.length_drop, List.length_take]; rfl)) ?_; (with_reducible refine (cell_Mod.calls kj120 a0_0 a0_1 a0_2 a1_0 a1_1 a1_2 t604 t605 t606 t607 _ A152.out).mono ?_); rintro e w162 ⟨rfl, hb⟩; refine ⟨_, rfl, ?_⟩; have n0_ := aM11 (bB11 (g := gb566) (o := .cells #[.int .u8 a0_0, .int .i64 a0_1, .string a0_2] 35 (0, 0)) (by (with_reducible repeat (first | refine bN11 ?_ _ | refine bD11 ?_ | refine bA11 ?_ _)); exact BK566.out) hb); have n1_ := aM11 (bB11 (g := gb567) (o := .cells #[.int .u8 a1_0, .int .i64 a1_1, .string a1_2] 35 (0, 0)) (by (with_reducible repeat (first | refine bN11 ?_ _ | refine bD11 ?_ | refine bA11 ?_ _)); exact BK567.out) hb); have n2_ := aM11 (bB11 (g := gb574) (o := .cells #[.int .u8 t596, .int .i64 t597, .string t598] 35 (0, 0)) (by (with_reducible repeat (first | refine bN11 ?_ _ | refine bD11 ?_ | refine bA11 ?_ _)); exact BK574.out) hb); have n3_ := aM11 (bB11 (g := gb579) (o := .cells #[.int .u8 t600, .int .i64 t601, .string t602] 35 (0, 0)) (by (with_reducible repeat (first | refine bN11 ?_ _ | refine bD11 ?_ | refine bA11 ?_ _)); exact BK579.out) hb); have n4_ := aM11 (below_step (by repeat (first | (with_reducible first | exact HB.out | apply below_alloc | apply pw_below_drewN | apply below_drew1 | refine bS11 ?_ GE566.out | refine bS11 ?_ GE567.out | refine bS11 ?_ GE574.out | refine bS11 ?_ GE579.out) | exact HB.out)) hb); clear BK566; clear BK567; clear BK574; clear BK579; clear HB; have BK566 := n0_; have BK567 := n1_; have BK574 := n2_; have BK579 := n3_; have HB := n4_; clear n0_ n1_ n2_ n3_ n4_; (try clear hb); (try clear hb2); (try clear hk); (try clear hi); have hnb163 := NB574_579.out; have hnc163 := NB579_574.out; have hcz164_0 : w162.cell? ⟨gb574, 0, none⟩ = some (.int .u8 t596) := (blk_cell BK574.out 0).trans rfl; have hcz164_1 : w162.cell? ⟨gb574, 1, none⟩ = some (.int .i64 t597) := (blk_cell BK574.out 1).trans rfl; have hcz164_2 : w162.cell? ⟨gb574, 2, none⟩ = some (.string t598) := (blk_cell BK574.out 2).trans rfl; have hfz164_0 := blk_frozen BK574.out 0; have hfz164_1 := blk_frozen BK574.out 1; have hfz164_2 := blk_frozen BK574.out 2; have hcz165_0 : w162.cell? ⟨gb566, 0, none⟩ = some (.int .u8 a0_0) := (blk_cell BK566.out 0).trans rfl; have hcz165_1 : w162.cell? ⟨gb566, 1, none⟩ = some (.int .i64 a0_1) := (blk_cell BK566.out 1).trans rfl; have hcz165_2 : w162.cell? ⟨gb566, 2, none⟩ = some (.string a0_2) := (blk_cell BK566.out 2).trans rfl; have hfz165_0 := blk_frozen BK566.out 0; have hfz165_1 := blk_frozen BK566.out 1; have hfz165_2 := blk_frozen BK566.out 2; have hcz166_0 : w162.cell? ⟨gb567, 0, none⟩ = some (.int .u8 a1_0) := (blk_cell BK567.out 0).trans rfl; have hcz166_1 : w162.cell? ⟨gb567, 1, none⟩ = some (.int .i64 a1_1) := (blk_cell BK567.out 1).trans rfl; have hcz166_2 : w162.cell? ⟨gb567, 2, none⟩ = some (.string a1_2) := (blk_cell BK567.out 2).trans rfl; have hfz166_0 := blk_frozen BK567.out 0; have hfz166_1 := blk_frozen BK567.out 1; have hfz166_2 := blk_frozen BK567.out 2) | ((with_reducible refine gate_callee (f := 56) rfl ?_); refine goesL_ (some 102) rfl rfl Try.func56 (by kernel_rfl) rfl #[.agg #[.int .u8 a0_0, .int .i64 a0_1, .string a0_2], .agg #[.int .u8 a1_0, .int .i64 a1_1, .string a1_2], .bool true] rfl (by (try simp only [List.map_toArray, List.map_cons, List.map_nil]); first | done | rfl | (simp only [List.length_drop, List.length_take]; rfl)) ?_; (with_reducible refine (hindsightref02_Div.calls kj120 a0_0 a0_1 a0_2 a1_0 a1_1 a1_2 true t608 t609 t610 t611 _ A153.out).mono ?_); rintro e w167 ⟨rfl, hb⟩; refine ⟨_, rfl, ?_⟩; have n0_ := aM11 (bB11 (g := gb566) (o := .cells #[.int .u8 a0_0, .int .i64 a0_1, .string a0_2] 35 (0, 0)) (by (with_reducible repeat (first | refine bN11 ?_ _ | refine bD11 ?_ | refine bA11 ?_ _ | refine bF11 ?_ NB566_574.out _)); exact BK566.out) hb); have n1_ := aM11 (bB11 (g := gb567) (o := .cells #[.int .u8 a1_0, .int .i64 a1_1, .string a1_2] 35 (0, 0)) (by (with_reducible repeat (first | refine bN11 ?_ _ | refine bD11 ?_ | refine bA11 ?_ _ | refine bF11 ?_ NB567_574.out _)); exact BK567.out) hb); have n2_ := aM11 (bB11 (g := gb574) (o := .cells #[.int .u8 t604, .int .i64 t605, .string t606] 35 (0, 0)) (by (with_reducible repeat (first | refine bN11 ?_ _ | refine bD11 ?_ | refine bA11 ?_ _)); refine blk_put (cs := #[.int .u8 t604, .int .i64 t605, .string t598]) ?_ 2 _ rfl; (with_reducible repeat (first | refine bN11 ?_ _ | refine bD11 ?_ | refine bA11 ?_ _)); refine blk_put (cs := #[.int .u8 t604, .int .i64 t597, .string t598]) ?_ 1 _ rfl; (with_reducible repeat (first | refine bN11 ?_ _ | refine bD11 ?_ | refine bA11 ?_ _)); refine blk_put (cs := #[.int .u8 t596, .int .i64 t597, .string t598]) ?_ 0 _ rfl; (with_reducible repeat (first | refine bN11 ?_ _ | refine bD11 ?_ | refine bA11 ?_ _)); exact BK574.out) hb); have n3_ := aM11 (bB11 (g := gb579) (o := .cells #[.int .u8 t600, .int .i64 t601, .string t602] 35 (0, 0)) (by (with_reducible repeat (first | refine bN11 ?_ _ | refine bD11 ?_ | refine bA11 ?_ _ | refine bF11 ?_ NB579_574.out _)); exact BK579.out) hb); have n4_ := aM11 (below_step (by repeat (first | (with_reducible first | exact HB.out | apply below_alloc | apply pw_below_drewN | apply below_drew1 | refine bS11 ?_ GE566.out | refine bS11 ?_ GE567.out | refine bS11 ?_ GE574.out | refine bS11 ?_ GE579.out) | exact HB.out)) hb); clear BK566; clear BK567; clear BK574; clear BK579; clear HB; have BK566 := n0_; have BK567 := n1_; have BK574 := n2_; have BK579 := n3_; have HB := n4_; clear n0_ n1_ n2_ n3_ n4_; (try clear hb); (try clear hb2); (try clear hk); (try clear hi); have hcz168_0 : w167.cell? ⟨gb579, 0, none⟩ = some (.int .u8 t600) := (blk_cell BK579.out 0).trans rfl; have hcz168_1 : w167.cell? ⟨gb579, 1, none⟩ = some (.int .i64 t601) := (blk_cell BK579.out 1).trans rfl; have hcz168_2 : w167.cell? ⟨gb579, 2, none⟩ = some (.string t602) := (blk_cell BK579.out 2).trans rfl; have hfz168_0 := blk_frozen BK579.out 0; have hfz168_1 := blk_frozen BK579.out 1; have hfz168_2 := blk_frozen BK579.out 2))
              (try simp only [Act.put, List.setIfInBounds_toArray, List.set_cons_zero, List.set_cons_succ])
              go_cut [112] (fun v112 wc => ∃ (kq : Nat) (x112_153 : Bool), v112 = .bool x112_153 ∧ Aside0 (hindsightlaw02_CellSums.j4 kq x112_153 a0_0 a0_1 a0_2 = some r) ∧ Aside0 (kq ≤ kj120) ∧ Aside0 (wc.heap[gb566]? = some (.cells #[.int .u8 a0_0, .int .i64 a0_1, .string a0_2] 35 (0, 0))) ∧ Aside0 (wc.heap[gb567]? = some (.cells #[.int .u8 a1_0, .int .i64 a1_1, .string a1_2] 35 (0, 0))) ∧ Aside0 (wc.heap[gb574]? = some (.cells #[.int .u8 t604, .int .i64 t605, .string t606] 35 (0, 0))) ∧ Aside0 (wc.heap[gb579]? = some (.cells #[.int .u8 t608, .int .i64 t609, .string t610] 35 (0, 0))) ∧ Aside0 (Below w.heap.size w wc))
              case first =>
               have H := HC154.out
               clear HC154
               by_cases c169 : (!(t604 == t608) || (!(t605 == t609) || (!(t606.toList == t610.toList)))) = true
               ·rw [if_pos c169] at H
                have c169b0 : (!(t604 == t608) || (!(t605 == t609) || (!(t606.toList == t610.toList)))) = true := c169
                clear c169
                (first | rw [c169b0] | (simp only [i64_w, i32_w]; rw [c169b0]) | skip)
                have H' := aM11 H
                clear H
                have hnb170 := NB574_566.out
                have hnc170 := NB566_574.out
                have hnb171 := NB574_567.out
                have hnc171 := NB567_574.out
                have hnb172 := NB574_579.out
                have hnc172 := NB579_574.out
                have hcz173_0 : w167.cell? ⟨gb574, 0, none⟩ = some (.int .u8 t604) := (blk_cell BK574.out 0).trans rfl
                have hcz173_1 : w167.cell? ⟨gb574, 1, none⟩ = some (.int .i64 t605) := (blk_cell BK574.out 1).trans rfl
                have hcz173_2 : w167.cell? ⟨gb574, 2, none⟩ = some (.string t606) := (blk_cell BK574.out 2).trans rfl
                have hfz173_0 := blk_frozen BK574.out 0
                have hfz173_1 := blk_frozen BK574.out 1
                have hfz173_2 := blk_frozen BK574.out 2
                have hnb174 := NB579_566.out
                have hnc174 := NB566_579.out
                have hnb175 := NB579_567.out
                have hnc175 := NB567_579.out
                have hcz176_0 : w167.cell? ⟨gb579, 0, none⟩ = some (.int .u8 t600) := (blk_cell BK579.out 0).trans rfl
                have hcz176_1 : w167.cell? ⟨gb579, 1, none⟩ = some (.int .i64 t601) := (blk_cell BK579.out 1).trans rfl
                have hcz176_2 : w167.cell? ⟨gb579, 2, none⟩ = some (.string t602) := (blk_cell BK579.out 2).trans rfl
                have hfz176_0 := blk_frozen BK579.out 0
                have hfz176_1 := blk_frozen BK579.out 1
                have hfz176_2 := blk_frozen BK579.out 2
                go_wp2
                go_meet
                case rel => exact ⟨_, (true), (by first | rfl | (simp; done) | (simp [*]; done)), H', ⟨by have := HJ14.out; have := HJ54.out; have := HJ87.out; have := HJ120.out; first | omega | exact Nat.le_refl _⟩, ⟨by (with_reducible repeat (first | refine bN11 ?_ _ | refine bD11 ?_ | refine bA11 ?_ _ | refine bF11 ?_ NB566_579.out _)); exact BK566.out⟩, ⟨by (with_reducible repeat (first | refine bN11 ?_ _ | refine bD11 ?_ | refine bA11 ?_ _ | refine bF11 ?_ NB567_579.out _)); exact BK567.out⟩, ⟨by (with_reducible repeat (first | refine bN11 ?_ _ | refine bD11 ?_ | refine bA11 ?_ _ | refine bF11 ?_ NB574_579.out _)); exact BK574.out⟩, ⟨by (with_reducible repeat (first | refine bN11 ?_ _ | refine bD11 ?_ | refine bA11 ?_ _)); refine blk_put (cs := #[.int .u8 t608, .int .i64 t609, .string t602]) ?_ 2 _ rfl; (with_reducible repeat (first | refine bN11 ?_ _ | refine bD11 ?_ | refine bA11 ?_ _)); refine blk_put (cs := #[.int .u8 t608, .int .i64 t601, .string t602]) ?_ 1 _ rfl; (with_reducible repeat (first | refine bN11 ?_ _ | refine bD11 ?_ | refine bA11 ?_ _)); refine blk_put (cs := #[.int .u8 t600, .int .i64 t601, .string t602]) ?_ 0 _ rfl; (with_reducible repeat (first | refine bN11 ?_ _ | refine bD11 ?_ | refine bA11 ?_ _)); exact BK579.out⟩, ⟨by repeat (first | (with_reducible first | exact HB.out | apply below_alloc | apply pw_below_drewN | apply below_drew1 | refine bS11 ?_ GE566.out | refine bS11 ?_ GE567.out | refine bS11 ?_ GE574.out | refine bS11 ?_ GE579.out) | exact HB.out)⟩⟩
               ·rw [if_neg c169] at H
                have c169b0 : (!(t604 == t608) || (!(t605 == t609) || (!(t606.toList == t610.toList)))) = false := by simpa using c169
                clear c169
                (first | rw [c169b0] | (simp only [i64_w, i32_w]; rw [c169b0]) | skip)
                have H' := aM11 H
                clear H
                have hnb177 := NB574_566.out
                have hnc177 := NB566_574.out
                have hnb178 := NB574_567.out
                have hnc178 := NB567_574.out
                have hnb179 := NB574_579.out
                have hnc179 := NB579_574.out
                have hcz180_0 : w167.cell? ⟨gb574, 0, none⟩ = some (.int .u8 t604) := (blk_cell BK574.out 0).trans rfl
                have hcz180_1 : w167.cell? ⟨gb574, 1, none⟩ = some (.int .i64 t605) := (blk_cell BK574.out 1).trans rfl
                have hcz180_2 : w167.cell? ⟨gb574, 2, none⟩ = some (.string t606) := (blk_cell BK574.out 2).trans rfl
                have hfz180_0 := blk_frozen BK574.out 0
                have hfz180_1 := blk_frozen BK574.out 1
                have hfz180_2 := blk_frozen BK574.out 2
                have hnb181 := NB579_566.out
                have hnc181 := NB566_579.out
                have hnb182 := NB579_567.out
                have hnc182 := NB567_579.out
                have hcz183_0 : w167.cell? ⟨gb579, 0, none⟩ = some (.int .u8 t600) := (blk_cell BK579.out 0).trans rfl
                have hcz183_1 : w167.cell? ⟨gb579, 1, none⟩ = some (.int .i64 t601) := (blk_cell BK579.out 1).trans rfl
                have hcz183_2 : w167.cell? ⟨gb579, 2, none⟩ = some (.string t602) := (blk_cell BK579.out 2).trans rfl
                have hfz183_0 := blk_frozen BK579.out 0
                have hfz183_1 := blk_frozen BK579.out 1
                have hfz183_2 := blk_frozen BK579.out 2
                go_wp2
                go_meet
                case rel => exact ⟨_, ((t607 != t611)), (by first | rfl | (simp; done) | (simp [*]; done)), H', ⟨by have := HJ14.out; have := HJ54.out; have := HJ87.out; have := HJ120.out; first | omega | exact Nat.le_refl _⟩, ⟨by (with_reducible repeat (first | refine bN11 ?_ _ | refine bD11 ?_ | refine bA11 ?_ _ | refine bF11 ?_ NB566_579.out _)); exact BK566.out⟩, ⟨by (with_reducible repeat (first | refine bN11 ?_ _ | refine bD11 ?_ | refine bA11 ?_ _ | refine bF11 ?_ NB567_579.out _)); exact BK567.out⟩, ⟨by (with_reducible repeat (first | refine bN11 ?_ _ | refine bD11 ?_ | refine bA11 ?_ _ | refine bF11 ?_ NB574_579.out _)); exact BK574.out⟩, ⟨by (with_reducible repeat (first | refine bN11 ?_ _ | refine bD11 ?_ | refine bA11 ?_ _)); refine blk_put (cs := #[.int .u8 t608, .int .i64 t609, .string t602]) ?_ 2 _ rfl; (with_reducible repeat (first | refine bN11 ?_ _ | refine bD11 ?_ | refine bA11 ?_ _)); refine blk_put (cs := #[.int .u8 t608, .int .i64 t601, .string t602]) ?_ 1 _ rfl; (with_reducible repeat (first | refine bN11 ?_ _ | refine bD11 ?_ | refine bA11 ?_ _)); refine blk_put (cs := #[.int .u8 t600, .int .i64 t601, .string t602]) ?_ 0 _ rfl; (with_reducible repeat (first | refine bN11 ?_ _ | refine bD11 ?_ | refine bA11 ?_ _)); exact BK579.out⟩, ⟨by repeat (first | (with_reducible first | exact HB.out | apply below_alloc | apply pw_below_drewN | apply below_drew1 | refine bS11 ?_ GE566.out | refine bS11 ?_ GE567.out | refine bS11 ?_ GE574.out | refine bS11 ?_ GE579.out) | exact HB.out)⟩⟩
              case rest =>
               clear HC154
               try clear c1
               try clear c2
               try clear p2
               try clear c3
               try clear c4
               try clear c5
               try clear c6
               try clear c7
               try clear c8
               try clear c9
               try clear c10
               try clear c11
               try clear c12
               try clear c13
               try clear c14
               try clear c15
               try clear c16
               try clear c17
               try clear c18
               try clear c23
               try clear c24
               try clear c26
               try clear c27
               try clear c33
               try clear c34
               try clear c35
               try clear c37
               try clear c37b0
               try clear c38
               try clear c39
               try clear c40
               try clear c42
               try clear c43
               try clear c45
               try clear c46
               try clear c47
               try clear c49
               try clear c50
               try clear c51
               try clear c52
               try clear c53
               try clear c54
               try clear c55
               try clear c56
               try clear c57
               try clear c58
               try clear c60
               try clear c61
               try clear c64
               try clear c70
               try clear c70b0
               try clear c71
               try clear c72
               try clear c73
               try clear c75
               try clear c76
               try clear c78
               try clear c79
               try clear c80
               try clear c82
               try clear c83
               try clear c85
               try clear c89
               try clear c90
               try clear c91
               try clear c93
               try clear c94
               try clear c97
               try clear c103
               try clear c103b0
               try clear c104
               try clear c105
               try clear c106
               try clear c108
               try clear c109
               try clear c111
               try clear c112
               try clear c113
               try clear c115
               try clear c116
               try clear c118
               try clear c122
               try clear c123
               try clear c124
               try clear c126
               try clear c127
               try clear c130
               try clear c136
               try clear c136b0
               try clear c137
               try clear c138
               try clear c139
               try clear c141
               try clear c142
               try clear c144
               try clear c145
               try clear c146
               try clear c148
               try clear c149
               try clear c151
               try clear c155
               try clear c156
               try clear c157
               try clear c159
               try clear c160
               try clear c163
               try clear c169
               try clear c169b0
               try clear c170
               try clear c171
               try clear c172
               try clear c174
               try clear c175
               try clear c177
               try clear c178
               try clear c179
               try clear c181
               try clear c182
               try clear hcz100_0
               try clear hcz100_1
               try clear hcz100_2
               try clear hcz102_0
               try clear hcz102_1
               try clear hcz102_2
               try clear hcz107_0
               try clear hcz107_1
               try clear hcz107_2
               try clear hcz10_0
               try clear hcz10_1
               try clear hcz10_2
               try clear hcz110_0
               try clear hcz110_1
               try clear hcz110_2
               try clear hcz114_0
               try clear hcz114_1
               try clear hcz114_2
               try clear hcz117_0
               try clear hcz117_1
               try clear hcz117_2
               try clear hcz125_0
               try clear hcz125_1
               try clear hcz125_2
               try clear hcz128_0
               try clear hcz128_1
               try clear hcz128_2
               try clear hcz131_0
               try clear hcz131_1
               try clear hcz131_2
               try clear hcz132_0
               try clear hcz132_1
               try clear hcz132_2
               try clear hcz133_0
               try clear hcz133_1
               try clear hcz133_2
               try clear hcz135_0
               try clear hcz135_1
               try clear hcz135_2
               try clear hcz140_0
               try clear hcz140_1
               try clear hcz140_2
               try clear hcz143_0
               try clear hcz143_1
               try clear hcz143_2
               try clear hcz147_0
               try clear hcz147_1
               try clear hcz147_2
               try clear hcz150_0
               try clear hcz150_1
               try clear hcz150_2
               try clear hcz158_0
               try clear hcz158_1
               try clear hcz158_2
               try clear hcz161_0
               try clear hcz161_1
               try clear hcz161_2
               try clear hcz164_0
               try clear hcz164_1
               try clear hcz164_2
               try clear hcz165_0
               try clear hcz165_1
               try clear hcz165_2
               try clear hcz166_0
               try clear hcz166_1
               try clear hcz166_2
               try clear hcz168_0
               try clear hcz168_1
               try clear hcz168_2
               try clear hcz173_0
               try clear hcz173_1
               try clear hcz173_2
               try clear hcz176_0
               try clear hcz176_1
               try clear hcz176_2
               try clear hcz180_0
               try clear hcz180_1
               try clear hcz180_2
               try clear hcz183_0
               try clear hcz183_1
               try clear hcz183_2
               try clear hcz19_0
               try clear hcz19_1
               try clear hcz19_2
               try clear hcz20_0
               try clear hcz20_1
               try clear hcz20_2
               try clear hcz22_0
               try clear hcz22_1
               try clear hcz22_2
               try clear hcz23_0
               try clear hcz23_1
               try clear hcz23_2
               try clear hcz28_0
               try clear hcz28_1
               try clear hcz28_2
               try clear hcz29_0
               try clear hcz29_1
               try clear hcz29_2
               try clear hcz30_0
               try clear hcz30_1
               try clear hcz30_2
               try clear hcz36_0
               try clear hcz36_1
               try clear hcz36_2
               try clear hcz41_0
               try clear hcz41_1
               try clear hcz41_2
               try clear hcz44_0
               try clear hcz44_1
               try clear hcz44_2
               try clear hcz48_0
               try clear hcz48_1
               try clear hcz48_2
               try clear hcz51_0
               try clear hcz51_1
               try clear hcz51_2
               try clear hcz59_0
               try clear hcz59_1
               try clear hcz59_2
               try clear hcz62_0
               try clear hcz62_1
               try clear hcz62_2
               try clear hcz65_0
               try clear hcz65_1
               try clear hcz65_2
               try clear hcz66_0
               try clear hcz66_1
               try clear hcz66_2
               try clear hcz67_0
               try clear hcz67_1
               try clear hcz67_2
               try clear hcz69_0
               try clear hcz69_1
               try clear hcz69_2
               try clear hcz74_0
               try clear hcz74_1
               try clear hcz74_2
               try clear hcz77_0
               try clear hcz77_1
               try clear hcz77_2
               try clear hcz81_0
               try clear hcz81_1
               try clear hcz81_2
               try clear hcz84_0
               try clear hcz84_1
               try clear hcz84_2
               try clear hcz92_0
               try clear hcz92_1
               try clear hcz92_2
               try clear hcz95_0
               try clear hcz95_1
               try clear hcz95_2
               try clear hcz98_0
               try clear hcz98_1
               try clear hcz98_2
               try clear hcz99_0
               try clear hcz99_1
               try clear hcz99_2
               try clear hcz9_0
               try clear hcz9_1
               try clear hcz9_2
               try clear hfz100_0
               try clear hfz100_1
               try clear hfz100_2
               try clear hfz102_0
               try clear hfz102_1
               try clear hfz102_2
               try clear hfz107_0
               try clear hfz107_1
               try clear hfz107_2
               try clear hfz10_0
               try clear hfz10_1
               try clear hfz10_2
               try clear hfz110_0
               try clear hfz110_1
               try clear hfz110_2
               try clear hfz114_0
               try clear hfz114_1
               try clear hfz114_2
               try clear hfz117_0
               try clear hfz117_1
               try clear hfz117_2
               try clear hfz125_0
               try clear hfz125_1
               try clear hfz125_2
               try clear hfz128_0
               try clear hfz128_1
               try clear hfz128_2
               try clear hfz131_0
               try clear hfz131_1
               try clear hfz131_2
               try clear hfz132_0
               try clear hfz132_1
               try clear hfz132_2
               try clear hfz133_0
               try clear hfz133_1
               try clear hfz133_2
               try clear hfz135_0
               try clear hfz135_1
               try clear hfz135_2
               try clear hfz140_0
               try clear hfz140_1
               try clear hfz140_2
               try clear hfz143_0
               try clear hfz143_1
               try clear hfz143_2
               try clear hfz147_0
               try clear hfz147_1
               try clear hfz147_2
               try clear hfz150_0
               try clear hfz150_1
               try clear hfz150_2
               try clear hfz158_0
               try clear hfz158_1
               try clear hfz158_2
               try clear hfz161_0
               try clear hfz161_1
               try clear hfz161_2
               try clear hfz164_0
               try clear hfz164_1
               try clear hfz164_2
               try clear hfz165_0
               try clear hfz165_1
               try clear hfz165_2
               try clear hfz166_0
               try clear hfz166_1
               try clear hfz166_2
               try clear hfz168_0
               try clear hfz168_1
               try clear hfz168_2
               try clear hfz173_0
               try clear hfz173_1
               try clear hfz173_2
               try clear hfz176_0
               try clear hfz176_1
               try clear hfz176_2
               try clear hfz180_0
               try clear hfz180_1
               try clear hfz180_2
               try clear hfz183_0
               try clear hfz183_1
               try clear hfz183_2
               try clear hfz19_0
               try clear hfz19_1
               try clear hfz19_2
               try clear hfz20_0
               try clear hfz20_1
               try clear hfz20_2
               try clear hfz22_0
               try clear hfz22_1
               try clear hfz22_2
               try clear hfz23_0
               try clear hfz23_1
               try clear hfz23_2
               try clear hfz28_0
               try clear hfz28_1
               try clear hfz28_2
               try clear hfz29_0
               try clear hfz29_1
               try clear hfz29_2
               try clear hfz30_0
               try clear hfz30_1
               try clear hfz30_2
               try clear hfz36_0
               try clear hfz36_1
               try clear hfz36_2
               try clear hfz41_0
               try clear hfz41_1
               try clear hfz41_2
               try clear hfz44_0
               try clear hfz44_1
               try clear hfz44_2
               try clear hfz48_0
               try clear hfz48_1
               try clear hfz48_2
               try clear hfz51_0
               try clear hfz51_1
               try clear hfz51_2
               try clear hfz59_0
               try clear hfz59_1
               try clear hfz59_2
               try clear hfz62_0
               try clear hfz62_1
               try clear hfz62_2
               try clear hfz65_0
               try clear hfz65_1
               try clear hfz65_2
               try clear hfz66_0
               try clear hfz66_1
               try clear hfz66_2
               try clear hfz67_0
               try clear hfz67_1
               try clear hfz67_2
               try clear hfz69_0
               try clear hfz69_1
               try clear hfz69_2
               try clear hfz74_0
               try clear hfz74_1
               try clear hfz74_2
               try clear hfz77_0
               try clear hfz77_1
               try clear hfz77_2
               try clear hfz81_0
               try clear hfz81_1
               try clear hfz81_2
               try clear hfz84_0
               try clear hfz84_1
               try clear hfz84_2
               try clear hfz92_0
               try clear hfz92_1
               try clear hfz92_2
               try clear hfz95_0
               try clear hfz95_1
               try clear hfz95_2
               try clear hfz98_0
               try clear hfz98_1
               try clear hfz98_2
               try clear hfz99_0
               try clear hfz99_1
               try clear hfz99_2
               try clear hfz9_0
               try clear hfz9_1
               try clear hfz9_2
               try clear p2
               obtain ⟨kq, x112_153, rfl, HA, HJ153, BK566, BK567, BK574, BK579, HB⟩ := hcut
               cases kq with
               | zero => exact absurd HA.out (by simp [hindsightlaw02_CellSums.j4])
               | succ kj153 =>
                have H := HA.out
                clear HA
                simp only [hindsightlaw02_CellSums.j4] at H
                by_cases c184 : x112_153 = true
                ·subst c184
                 have H1 : (none) = some r := by rw [if_pos rfl] at H; exact H
                 clear H
                 have H := H1
                 clear H1
                 exact absurd H (by simp)
                ·replace c184 := Bool.eq_false_iff.mpr c184
                 subst c184
                 have H1 : ((cell_Neg.f kj153 a0_0 a0_1 a0_2).bind fun bt612 => ((hindsightref02_Number.f 0).bind fun bt616 => ((hindsightref02_Sub.f kj153 bt616.1 bt616.2.1 bt616.2.2 a0_0 a0_1 a0_2).bind fun bt619 => ((hindsightlaw02_alive.f kj153).bind fun t623 => (if t623 = true then (if (bt612.1 == bt619.1 && (bt612.2.1 == bt619.2.1 && (bt612.2.2.1.toList == bt619.2.2.1.toList))) = true then (some (bt612.2.2.2 == bt619.2.2.2)) else (none)) else (none)))))) = some r := by rw [if_neg (show ¬ (false = true) by decide)] at H; exact H
                 clear H
                 have H := H1
                 clear H1
                 replace H := Option.bind_eq_some_iff.mp H
                 obtain ⟨⟨t612, t613, t614, t615⟩, A1850, H⟩ := H
                 replace H : ((hindsightref02_Number.f 0).bind fun bt616 => ((hindsightref02_Sub.f kj153 bt616.1 bt616.2.1 bt616.2.2 a0_0 a0_1 a0_2).bind fun bt619 => ((hindsightlaw02_alive.f kj153).bind fun t623 => (if t623 = true then (if (t612 == bt619.1 && (t613 == bt619.2.1 && (t614.toList == bt619.2.2.1.toList))) = true then (some (t615 == bt619.2.2.2)) else (none)) else (none))))) = some r := H
                 have A185 := aM11 A1850
                 clear A1850
                 replace H := Option.bind_eq_some_iff.mp H
                 obtain ⟨⟨t616, t617, t618⟩, A1860, H⟩ := H
                 replace H : ((hindsightref02_Sub.f kj153 t616 t617 t618 a0_0 a0_1 a0_2).bind fun bt619 => ((hindsightlaw02_alive.f kj153).bind fun t623 => (if t623 = true then (if (t612 == bt619.1 && (t613 == bt619.2.1 && (t614.toList == bt619.2.2.1.toList))) = true then (some (t615 == bt619.2.2.2)) else (none)) else (none)))) = some r := H
                 have A186 := aM11 A1860
                 clear A1860
                 replace H := Option.bind_eq_some_iff.mp H
                 obtain ⟨⟨t619, t620, t621, t622⟩, A1870, H⟩ := H
                 replace H : ((hindsightlaw02_alive.f kj153).bind fun t623 => (if t623 = true then (if (t612 == t619 && (t613 == t620 && (t614.toList == t621.toList))) = true then (some (t615 == t622)) else (none)) else (none))) = some r := H
                 have A187 := aM11 A1870
                 clear A1870
                 replace H := Option.bind_eq_some_iff.mp H
                 obtain ⟨t623, A1880, H⟩ := H
                 replace H : (if t623 = true then (if (t612 == t619 && (t613 == t620 && (t614.toList == t621.toList))) = true then (some (t615 == t622)) else (none)) else (none)) = some r := H
                 have A188 := aM11 A1880
                 clear A1880
                 by_cases c189 : t623 = true
                 ·subst c189
                  have H1 : (if (t612 == t619 && (t613 == t620 && (t614.toList == t621.toList))) = true then (some (t615 == t622)) else (none)) = some r := by rw [if_pos rfl] at H; exact H
                  clear H
                  have H := H1
                  clear H1
                  by_cases c190 : (t612 == t619 && (t613 == t620 && (t614.toList == t621.toList))) = true
                  ·rw [if_pos c190] at H
                   have c190b0 : (t612 == t619 && (t613 == t620 && (t614.toList == t621.toList))) = true := c190
                   (try (have c190b1 : decide (t612 = t619 && (t613 == t620 && (t614.toList == t621.toList))) = true := by simpa using c190))
                   (try (have c190b2 : (t612 == t619 && (t613 == t620 && (t614.toList == t621.toList))) = true := by simpa using c190))
                   (try (have c190b3 : (!(t612 == t619 && (t613 == t620 && (t614.toList == t621.toList)))) = false := by first | exact c190 | simpa using c190))
                   clear c190
                   obtain rfl := Option.some.inj H
                   have hnb191 := NB566_567.out
                   have hnc191 := NB567_566.out
                   have hnb192 := NB566_574.out
                   have hnc192 := NB574_566.out
                   have hnb193 := NB566_579.out
                   have hnc193 := NB579_566.out
                   have hcz194_0 : wc.cell? ⟨gb566, 0, none⟩ = some (.int .u8 a0_0) := (blk_cell BK566.out 0).trans rfl
                   have hcz194_1 : wc.cell? ⟨gb566, 1, none⟩ = some (.int .i64 a0_1) := (blk_cell BK566.out 1).trans rfl
                   have hcz194_2 : wc.cell? ⟨gb566, 2, none⟩ = some (.string a0_2) := (blk_cell BK566.out 2).trans rfl
                   have hfz194_0 := blk_frozen BK566.out 0
                   have hfz194_1 := blk_frozen BK566.out 1
                   have hfz194_2 := blk_frozen BK566.out 2
                   try go_wp2_with (first | ((with_reducible refine gate_callee (f := 58) rfl ?_); refine goesL_ (some 115) rfl rfl Try.func58 (by kernel_rfl) rfl #[.agg #[.int .u8 a0_0, .int .i64 a0_1, .string a0_2]] rfl (by (try simp only [List.map_toArray, List.map_cons, List.map_nil]); first | done | rfl | (simp only [List.length_drop, List.length_take]; rfl)) ?_; (with_reducible refine (cell_Neg.calls kj153 a0_0 a0_1 a0_2 t612 t613 t614 t615 _ A185.out).mono ?_); rintro e w195 ⟨rfl, hb⟩; refine ⟨_, rfl, ?_⟩; have n0_ := aM11 (bB11 (g := gb566) (o := .cells #[.int .u8 a0_0, .int .i64 a0_1, .string a0_2] 35 (0, 0)) (by (with_reducible repeat (first | refine bN11 ?_ _ | refine bD11 ?_ | refine bA11 ?_ _)); exact BK566.out) hb); have n1_ := aM11 (bB11 (g := gb567) (o := .cells #[.int .u8 a1_0, .int .i64 a1_1, .string a1_2] 35 (0, 0)) (by (with_reducible repeat (first | refine bN11 ?_ _ | refine bD11 ?_ | refine bA11 ?_ _)); exact BK567.out) hb); have n2_ := aM11 (bB11 (g := gb574) (o := .cells #[.int .u8 t604, .int .i64 t605, .string t606] 35 (0, 0)) (by (with_reducible repeat (first | refine bN11 ?_ _ | refine bD11 ?_ | refine bA11 ?_ _)); exact BK574.out) hb); have n3_ := aM11 (bB11 (g := gb579) (o := .cells #[.int .u8 t608, .int .i64 t609, .string t610] 35 (0, 0)) (by (with_reducible repeat (first | refine bN11 ?_ _ | refine bD11 ?_ | refine bA11 ?_ _)); exact BK579.out) hb); have n4_ := aM11 (below_step (by repeat (first | (with_reducible first | exact HB.out | apply below_alloc | apply pw_below_drewN | apply below_drew1 | refine bS11 ?_ GE566.out | refine bS11 ?_ GE567.out | refine bS11 ?_ GE574.out | refine bS11 ?_ GE579.out) | exact HB.out)) hb); clear BK566; clear BK567; clear BK574; clear BK579; clear HB; have BK566 := n0_; have BK567 := n1_; have BK574 := n2_; have BK579 := n3_; have HB := n4_; clear n0_ n1_ n2_ n3_ n4_; (try clear hb); (try clear hb2); (try clear hk); (try clear hi); have hnb196 := NB574_567.out; have hnc196 := NB567_574.out; have hnb197 := NB574_579.out; have hnc197 := NB579_574.out; have hcz198_0 : w195.cell? ⟨gb574, 0, none⟩ = some (.int .u8 t604) := (blk_cell BK574.out 0).trans rfl; have hcz198_1 : w195.cell? ⟨gb574, 1, none⟩ = some (.int .i64 t605) := (blk_cell BK574.out 1).trans rfl; have hcz198_2 : w195.cell? ⟨gb574, 2, none⟩ = some (.string t606) := (blk_cell BK574.out 2).trans rfl; have hfz198_0 := blk_frozen BK574.out 0; have hfz198_1 := blk_frozen BK574.out 1; have hfz198_2 := blk_frozen BK574.out 2))
                   have n0_ : Aside0 ((((w195.setCell ⟨gb574, 0, none⟩ (.int .u8 t612)).setCell ⟨gb574, 1, none⟩ (.int .i64 t613)).setCell ⟨gb574, 2, none⟩ (.string t614)).heap[gb566]? = some (.cells #[.int .u8 a0_0, .int .i64 a0_1, .string a0_2] 35 (0, 0))) := ⟨by (with_reducible repeat (first | refine bN11 ?_ _ | refine bD11 ?_ | refine bA11 ?_ _ | refine bF11 ?_ NB566_574.out _)); exact BK566.out⟩
                   have n1_ : Aside0 ((((w195.setCell ⟨gb574, 0, none⟩ (.int .u8 t612)).setCell ⟨gb574, 1, none⟩ (.int .i64 t613)).setCell ⟨gb574, 2, none⟩ (.string t614)).heap[gb567]? = some (.cells #[.int .u8 a1_0, .int .i64 a1_1, .string a1_2] 35 (0, 0))) := ⟨by (with_reducible repeat (first | refine bN11 ?_ _ | refine bD11 ?_ | refine bA11 ?_ _ | refine bF11 ?_ NB567_574.out _)); exact BK567.out⟩
                   have n2_ : Aside0 ((((w195.setCell ⟨gb574, 0, none⟩ (.int .u8 t612)).setCell ⟨gb574, 1, none⟩ (.int .i64 t613)).setCell ⟨gb574, 2, none⟩ (.string t614)).heap[gb574]? = some (.cells #[.int .u8 t612, .int .i64 t613, .string t614] 35 (0, 0))) := ⟨by (with_reducible repeat (first | refine bN11 ?_ _ | refine bD11 ?_ | refine bA11 ?_ _)); refine blk_put (cs := #[.int .u8 t612, .int .i64 t613, .string t606]) ?_ 2 _ rfl; (with_reducible repeat (first | refine bN11 ?_ _ | refine bD11 ?_ | refine bA11 ?_ _)); refine blk_put (cs := #[.int .u8 t612, .int .i64 t605, .string t606]) ?_ 1 _ rfl; (with_reducible repeat (first | refine bN11 ?_ _ | refine bD11 ?_ | refine bA11 ?_ _)); refine blk_put (cs := #[.int .u8 t604, .int .i64 t605, .string t606]) ?_ 0 _ rfl; (with_reducible repeat (first | refine bN11 ?_ _ | refine bD11 ?_ | refine bA11 ?_ _)); exact BK574.out⟩
                   have n3_ : Aside0 ((((w195.setCell ⟨gb574, 0, none⟩ (.int .u8 t612)).setCell ⟨gb574, 1, none⟩ (.int .i64 t613)).setCell ⟨gb574, 2, none⟩ (.string t614)).heap[gb579]? = some (.cells #[.int .u8 t608, .int .i64 t609, .string t610] 35 (0, 0))) := ⟨by (with_reducible repeat (first | refine bN11 ?_ _ | refine bD11 ?_ | refine bA11 ?_ _ | refine bF11 ?_ NB579_574.out _)); exact BK579.out⟩
                   have n4_ : Aside0 (Below w.heap.size w (((w195.setCell ⟨gb574, 0, none⟩ (.int .u8 t612)).setCell ⟨gb574, 1, none⟩ (.int .i64 t613)).setCell ⟨gb574, 2, none⟩ (.string t614))) := ⟨by repeat (first | (with_reducible first | exact HB.out | apply below_alloc | apply pw_below_drewN | apply below_drew1 | refine bS11 ?_ GE566.out | refine bS11 ?_ GE567.out | refine bS11 ?_ GE574.out | refine bS11 ?_ GE579.out) | exact HB.out)⟩
                   (try clear BK566)
                   (try clear BK567)
                   (try clear BK574)
                   (try clear BK579)
                   (try clear HB)
                   generalize (((w195.setCell ⟨gb574, 0, none⟩ (.int .u8 t612)).setCell ⟨gb574, 1, none⟩ (.int .i64 t613)).setCell ⟨gb574, 2, none⟩ (.string t614)) = w199 at n0_ n1_ n2_ n3_ n4_ ⊢
                   have BK566 := n0_
                   have BK567 := n1_
                   have BK574 := n2_
                   have BK579 := n3_
                   have HB := n4_
                   clear n0_ n1_ n2_ n3_ n4_
                   have n0_ := aM11 (bD11 BK566.out)
                   have n1_ := aM11 (bD11 BK567.out)
                   have n2_ := aM11 (bD11 BK574.out)
                   have n3_ := aM11 (bD11 BK579.out)
                   have n4_ := aM11 (below_drew1 HB.out)
                   clear BK566
                   clear BK567
                   clear BK574
                   clear BK579
                   clear HB
                   have BK566 := n0_
                   have BK567 := n1_
                   have BK574 := n2_
                   have BK579 := n3_
                   have HB := n4_
                   clear n0_ n1_ n2_ n3_ n4_
                   refine start_ (n := 8) (S := fun w' => w'.cell? ⟨gb566, 0, none⟩ = some (.int .u8 a0_0) ∧ w'.cell? ⟨gb566, 1, none⟩ = some (.int .i64 a0_1) ∧ w'.cell? ⟨gb566, 2, none⟩ = some (.string a0_2)) (ds := []) #[false,false,false,false,false,false,false,false] (by kernel_rfl) rfl rfl ⟨(blk_cell BK566.out 0).trans rfl, (blk_cell BK566.out 1).trans rfl, (blk_cell BK566.out 2).trans rfl⟩ (fun hHeld => ?_); refine with_tabW hindsightlaw02_CellSums.tab24 hindsightlaw02_CellSums.bits24 (fun HT_ HW_ => ?_)
                   generalize w199.drew = w200 at BK566 BK567 BK574 BK579 HB hHeld ⊢
                   refine take_ (i := 1) (N := some 120) (v := ?_) (a' := ?_) #[false,true,false,false,false,false,false,false] rfl rfl (take_ofW HT_.out HW_.out (by kernel_rfl)) (fun _ _ _ h => h) (Or.inl ⟨by rfl, ?_⟩) hHeld ?_ ?_
                   rotate_left
                   ·rintro w' ⟨s0, s1, s2⟩
                    go_simp
                    with_reducible rfl
                   rotate_left
                   ·simp only [Act.put, List.setIfInBounds_toArray, List.set_cons_zero, List.set_cons_succ, i64_w, i32_w]
                    rfl
                   refine one_ (i := 0) (N := some 119) #[true,true,false,false,false,false,false,false] rfl rfl (one_of HT_.out (by kernel_rfl)) (by decide) (fun K hK => ?_)
                   refine goes_ Try.func32 (by kernel_rfl) rfl #[.int .i64 0] (by rfl) rfl rfl (by (try simp only [List.map_toArray, List.map_cons, List.map_nil]); first | done | rfl | (simp only [List.length_drop, List.length_take]; rfl)) ?_
                   with_reducible refine (hindsightref02_Number.calls 0 t616 t617 t618 _ A186.out).mono ?_
                   rintro e w201 ⟨rfl, hb⟩
                   refine ⟨_, rfl, ?_⟩
                   have n0_ := aM11 (bB11 (g := gb566) (o := .cells #[.int .u8 a0_0, .int .i64 a0_1, .string a0_2] 35 (0, 0)) (by (with_reducible repeat (first | refine bN11 ?_ _ | refine bD11 ?_ | refine bA11 ?_ _)); exact BK566.out) hb)
                   have n1_ := aM11 (bB11 (g := gb567) (o := .cells #[.int .u8 a1_0, .int .i64 a1_1, .string a1_2] 35 (0, 0)) (by (with_reducible repeat (first | refine bN11 ?_ _ | refine bD11 ?_ | refine bA11 ?_ _)); exact BK567.out) hb)
                   have n2_ := aM11 (bB11 (g := gb574) (o := .cells #[.int .u8 t612, .int .i64 t613, .string t614] 35 (0, 0)) (by (with_reducible repeat (first | refine bN11 ?_ _ | refine bD11 ?_ | refine bA11 ?_ _)); exact BK574.out) hb)
                   have n3_ := aM11 (bB11 (g := gb579) (o := .cells #[.int .u8 t608, .int .i64 t609, .string t610] 35 (0, 0)) (by (with_reducible repeat (first | refine bN11 ?_ _ | refine bD11 ?_ | refine bA11 ?_ _)); exact BK579.out) hb)
                   have n4_ := aM11 (below_step (by repeat (first | (with_reducible first | exact HB.out | apply below_alloc | apply pw_below_drewN | apply below_drew1 | refine bS11 ?_ GE566.out | refine bS11 ?_ GE567.out | refine bS11 ?_ GE574.out | refine bS11 ?_ GE579.out) | exact HB.out)) hb)
                   clear BK566
                   clear BK567
                   clear BK574
                   clear BK579
                   clear HB
                   have BK566 := n0_
                   have BK567 := n1_
                   have BK574 := n2_
                   have BK579 := n3_
                   have HB := n4_
                   clear n0_ n1_ n2_ n3_ n4_
                   (try clear hb)
                   (try clear hb2)
                   (try clear hk)
                   (try clear hi)
                   refine hK.out _ _ ⟨(blk_cell BK566.out 0).trans rfl, (blk_cell BK566.out 1).trans rfl, (blk_cell BK566.out 2).trans rfl⟩ (fun hHeld => ?_)
                   clear hK K
                   refine norm_ (a' := ?_) ?_ ?_
                   rotate_left
                   ·show Act.put _ (some 119) _ = _
                    simp only [Act.put, List.setIfInBounds_toArray, List.set_cons_zero, List.set_cons_succ, i64_w, i32_w]
                    rfl
                   refine one_ (i := 2) (N := some 121) #[true,true,true,false,false,false,false,false] rfl rfl (one_of HT_.out (by kernel_rfl)) (by decide) (fun K hK => ?_)
                   refine goes_ Try.func52 (by kernel_rfl) rfl #[.agg #[.int .u8 t616, .int .i64 t617, .string t618], .agg #[.int .u8 a0_0, .int .i64 a0_1, .string a0_2]] (by rfl) rfl rfl (by (try simp only [List.map_toArray, List.map_cons, List.map_nil]); first | done | rfl | (simp only [List.length_drop, List.length_take]; rfl)) ?_
                   with_reducible refine (hindsightref02_Sub.calls kj153 t616 t617 t618 a0_0 a0_1 a0_2 t619 t620 t621 t622 _ A187.out).mono ?_
                   rintro e w202 ⟨rfl, hb⟩
                   refine ⟨_, rfl, ?_⟩
                   have n0_ := aM11 (bB11 (g := gb566) (o := .cells #[.int .u8 a0_0, .int .i64 a0_1, .string a0_2] 35 (0, 0)) (by (with_reducible repeat (first | refine bN11 ?_ _ | refine bD11 ?_ | refine bA11 ?_ _)); exact BK566.out) hb)
                   have n1_ := aM11 (bB11 (g := gb567) (o := .cells #[.int .u8 a1_0, .int .i64 a1_1, .string a1_2] 35 (0, 0)) (by (with_reducible repeat (first | refine bN11 ?_ _ | refine bD11 ?_ | refine bA11 ?_ _)); exact BK567.out) hb)
                   have n2_ := aM11 (bB11 (g := gb574) (o := .cells #[.int .u8 t612, .int .i64 t613, .string t614] 35 (0, 0)) (by (with_reducible repeat (first | refine bN11 ?_ _ | refine bD11 ?_ | refine bA11 ?_ _)); exact BK574.out) hb)
                   have n3_ := aM11 (bB11 (g := gb579) (o := .cells #[.int .u8 t608, .int .i64 t609, .string t610] 35 (0, 0)) (by (with_reducible repeat (first | refine bN11 ?_ _ | refine bD11 ?_ | refine bA11 ?_ _)); exact BK579.out) hb)
                   have n4_ := aM11 (below_step (by repeat (first | (with_reducible first | exact HB.out | apply below_alloc | apply pw_below_drewN | apply below_drew1 | refine bS11 ?_ GE566.out | refine bS11 ?_ GE567.out | refine bS11 ?_ GE574.out | refine bS11 ?_ GE579.out) | exact HB.out)) hb)
                   clear BK566
                   clear BK567
                   clear BK574
                   clear BK579
                   clear HB
                   have BK566 := n0_
                   have BK567 := n1_
                   have BK574 := n2_
                   have BK579 := n3_
                   have HB := n4_
                   clear n0_ n1_ n2_ n3_ n4_
                   (try clear hb)
                   (try clear hb2)
                   (try clear hk)
                   (try clear hi)
                   refine hK.out _ _ ⟨(blk_cell BK566.out 0).trans rfl, (blk_cell BK566.out 1).trans rfl, (blk_cell BK566.out 2).trans rfl⟩ (fun hHeld => ?_)
                   clear hK K
                   refine norm_ (a' := ?_) ?_ ?_
                   rotate_left
                   ·show Act.put _ (some 121) _ = _
                    simp only [Act.put, List.setIfInBounds_toArray, List.set_cons_zero, List.set_cons_succ, i64_w, i32_w]
                    rfl
                   refine pure_ (i := 3) (N := some 118) (v := ?_) (a' := ?_) #[true,true,true,true,false,false,false,false] rfl rfl (any_of HT_.out (by kernel_rfl)) (fun _ _ _ h => h) (Or.inl ⟨by rfl, ?_⟩) ?_ ?_
                   rotate_left
                   ·intro w'
                    go_simp
                    with_reducible rfl
                   rotate_left
                   ·simp only [Act.put, List.setIfInBounds_toArray, List.set_cons_zero, List.set_cons_succ, i64_w, i32_w]
                    rfl
                   refine pure_ (i := 4) (N := some 122) (v := ?_) (a' := ?_) #[true,true,true,true,true,false,false,false] rfl rfl (any_of HT_.out (by kernel_rfl)) (fun _ _ _ h => h) (Or.inl ⟨by rfl, ?_⟩) ?_ ?_
                   rotate_left
                   ·intro w'
                    go_simp
                    with_reducible rfl
                   rotate_left
                   ·simp only [Act.put, List.setIfInBounds_toArray, List.set_cons_zero, List.set_cons_succ, i64_w, i32_w]
                    rfl
                   refine pure_ (i := 5) (N := some 123) (v := ?_) (a' := ?_) #[true,true,true,true,true,true,false,false] rfl rfl (any_of HT_.out (by kernel_rfl)) (fun _ _ _ h => h) (Or.inl ⟨by rfl, ?_⟩) ?_ ?_
                   rotate_left
                   ·intro w'
                    go_simp
                    with_reducible rfl
                   rotate_left
                   ·simp only [Act.put, List.setIfInBounds_toArray, List.set_cons_zero, List.set_cons_succ, i64_w, i32_w]
                    rfl
                   refine one_ (i := 6) (N := none) #[true,true,true,true,true,true,true,false] rfl rfl (one_of HT_.out (by kernel_rfl)) (by decide) (fun K hK => ?_)
                   have hs203 : w202.cell? ⟨gb579, 0, none⟩ = some (.int .u8 t608) := (blk_cell BK579.out 0).trans rfl
                   have hfs203 := blk_frozen BK579.out 0
                   have hns203_0 := NB566_579.out
                   have hns203_1 := NB567_579.out
                   have hns203_2 := NB574_579.out
                   have hms203_0 := NB579_566.out
                   have hms203_1 := NB579_567.out
                   have hms203_2 := NB579_574.out
                   have hs204 : w202.cell? ⟨gb579, 1, none⟩ = some (.int .i64 t609) := (blk_cell BK579.out 1).trans rfl
                   have hfs204 := blk_frozen BK579.out 1
                   have hns204_0 := NB566_579.out
                   have hns204_1 := NB567_579.out
                   have hns204_2 := NB574_579.out
                   have hms204_0 := NB579_566.out
                   have hms204_1 := NB579_567.out
                   have hms204_2 := NB579_574.out
                   have hs205 : w202.cell? ⟨gb579, 2, none⟩ = some (.string t610) := (blk_cell BK579.out 2).trans rfl
                   have hfs205 := blk_frozen BK579.out 2
                   have hns205_0 := NB566_579.out
                   have hns205_1 := NB567_579.out
                   have hns205_2 := NB574_579.out
                   have hms205_0 := NB579_566.out
                   have hms205_1 := NB579_567.out
                   have hms205_2 := NB579_574.out
                   refine skip_ (w1 := ?_) (by rfl) rfl ?_ ?_
                   rotate_left
                   ·go_simp
                    rfl
                   refine hK.out _ _ ⟨((cell_far (p := ⟨gb579, _, none⟩) NB566_579.out _).trans (((cell_far (p := ⟨gb579, _, none⟩) NB566_579.out _).trans (((cell_far (p := ⟨gb579, _, none⟩) NB566_579.out _).trans (hHeld.1)))))), ((cell_far (p := ⟨gb579, _, none⟩) NB566_579.out _).trans (((cell_far (p := ⟨gb579, _, none⟩) NB566_579.out _).trans (((cell_far (p := ⟨gb579, _, none⟩) NB566_579.out _).trans (hHeld.2.1)))))), ((cell_far (p := ⟨gb579, _, none⟩) NB566_579.out _).trans (((cell_far (p := ⟨gb579, _, none⟩) NB566_579.out _).trans (((cell_far (p := ⟨gb579, _, none⟩) NB566_579.out _).trans (hHeld.2.2))))))⟩ (fun hHeld => ?_)
                   clear hK K
                   refine pure_ (i := 7) (N := some 8) (v := ?_) (a' := ?_) #[true,true,true,true,true,true,true,true] rfl rfl (any_of HT_.out (by kernel_rfl)) (fun _ _ _ h => h) (Or.inl ⟨by rfl, ?_⟩) ?_ ?_
                   rotate_left
                   ·intro w'
                    go_simp
                    with_reducible rfl
                   rotate_left
                   ·simp only [Act.put, List.setIfInBounds_toArray, List.set_cons_zero, List.set_cons_succ, i64_w, i32_w]
                    rfl
                   refine done_ (done_of HT_.out (by kernel_rfl)) ?_
                   try go_wp2_with (first | ((with_reducible refine gate_callee (f := 24) rfl ?_); refine goesL_ (some 124) rfl rfl Try.func24 (by kernel_rfl) rfl #[] rfl (by (try simp only [List.map_toArray, List.map_cons, List.map_nil]); first | done | rfl | (simp only [List.length_drop, List.length_take]; rfl)) ?_; (with_reducible refine (hindsightlaw02_alive.calls kj153  true _ A188.out).mono ?_); rintro e w206 ⟨rfl, hb⟩; refine ⟨_, rfl, ?_⟩; have n0_ := aM11 (bB11 (g := gb566) (o := .cells #[.int .u8 a0_0, .int .i64 a0_1, .string a0_2] 35 (0, 0)) (by (with_reducible repeat (first | refine bN11 ?_ _ | refine bD11 ?_ | refine bA11 ?_ _ | refine bF11 ?_ NB566_579.out _)); exact BK566.out) hb); have n1_ := aM11 (bB11 (g := gb567) (o := .cells #[.int .u8 a1_0, .int .i64 a1_1, .string a1_2] 35 (0, 0)) (by (with_reducible repeat (first | refine bN11 ?_ _ | refine bD11 ?_ | refine bA11 ?_ _ | refine bF11 ?_ NB567_579.out _)); exact BK567.out) hb); have n2_ := aM11 (bB11 (g := gb574) (o := .cells #[.int .u8 t612, .int .i64 t613, .string t614] 35 (0, 0)) (by (with_reducible repeat (first | refine bN11 ?_ _ | refine bD11 ?_ | refine bA11 ?_ _ | refine bF11 ?_ NB574_579.out _)); exact BK574.out) hb); have n3_ := aM11 (bB11 (g := gb579) (o := .cells #[.int .u8 t619, .int .i64 t620, .string t621] 35 (0, 0)) (by (with_reducible repeat (first | refine bN11 ?_ _ | refine bD11 ?_ | refine bA11 ?_ _)); refine blk_put (cs := #[.int .u8 t619, .int .i64 t620, .string t610]) ?_ 2 _ rfl; (with_reducible repeat (first | refine bN11 ?_ _ | refine bD11 ?_ | refine bA11 ?_ _)); refine blk_put (cs := #[.int .u8 t619, .int .i64 t609, .string t610]) ?_ 1 _ rfl; (with_reducible repeat (first | refine bN11 ?_ _ | refine bD11 ?_ | refine bA11 ?_ _)); refine blk_put (cs := #[.int .u8 t608, .int .i64 t609, .string t610]) ?_ 0 _ rfl; (with_reducible repeat (first | refine bN11 ?_ _ | refine bD11 ?_ | refine bA11 ?_ _)); exact BK579.out) hb); have n4_ := aM11 (below_step (by repeat (first | (with_reducible first | exact HB.out | apply below_alloc | apply pw_below_drewN | apply below_drew1 | refine bS11 ?_ GE566.out | refine bS11 ?_ GE567.out | refine bS11 ?_ GE574.out | refine bS11 ?_ GE579.out) | exact HB.out)) hb); clear BK566; clear BK567; clear BK574; clear BK579; clear HB; have BK566 := n0_; have BK567 := n1_; have BK574 := n2_; have BK579 := n3_; have HB := n4_; clear n0_ n1_ n2_ n3_ n4_; (try clear hb); (try clear hb2); (try clear hk); (try clear hi); have hcz207_0 : w206.cell? ⟨gb574, 0, none⟩ = some (.int .u8 t612) := (blk_cell BK574.out 0).trans rfl; have hcz207_1 : w206.cell? ⟨gb574, 1, none⟩ = some (.int .i64 t613) := (blk_cell BK574.out 1).trans rfl; have hcz207_2 : w206.cell? ⟨gb574, 2, none⟩ = some (.string t614) := (blk_cell BK574.out 2).trans rfl; have hfz207_0 := blk_frozen BK574.out 0; have hfz207_1 := blk_frozen BK574.out 1; have hfz207_2 := blk_frozen BK574.out 2; have hnb208 := NB579_567.out; have hnc208 := NB567_579.out; have hcz209_0 : w206.cell? ⟨gb579, 0, none⟩ = some (.int .u8 t619) := (blk_cell BK579.out 0).trans rfl; have hcz209_1 : w206.cell? ⟨gb579, 1, none⟩ = some (.int .i64 t620) := (blk_cell BK579.out 1).trans rfl; have hcz209_2 : w206.cell? ⟨gb579, 2, none⟩ = some (.string t621) := (blk_cell BK579.out 2).trans rfl; have hfz209_0 := blk_frozen BK579.out 0; have hfz209_1 := blk_frozen BK579.out 1; have hfz209_2 := blk_frozen BK579.out 2))
                   (try (all_goals (try (exact absurd (c190b3.symm.trans (show (!(t612 == t619 && (t613 == t620 && (t614.toList == t621.toList)))) = true by assumption)) (by decide)))))
                   go_ret
                   exact ⟨by first | rfl | (simp [errW_none, errW_some] <;> rfl) | (simp [*, errW_none, errW_some] <;> rfl), by repeat (first | (with_reducible first | exact HB.out | apply below_alloc | apply pw_below_drewN | apply below_drew1 | refine bS11 ?_ GE566.out | refine bS11 ?_ GE567.out | refine bS11 ?_ GE574.out | refine bS11 ?_ GE579.out) | exact HB.out)⟩
                  ·rw [if_neg c190] at H
                   exact absurd H (by simp)
                 ·replace c189 := Bool.eq_false_iff.mpr c189
                  subst c189
                  have H1 : (none) = some r := by rw [if_neg (show ¬ (false = true) by decide)] at H; exact H
                  clear H
                  have H := H1
                  clear H1
                  exact absurd H (by simp)

/-- THE ONE PURE STATEMENT of hindsightlaw02_CellSums: yours. -/
def hindsightlaw02_CellSums.Pure : Prop := ∀ (a0_0 : Int) (a0_1 : Int) (a0_2 : ByteArray) (a1_0 : Int) (a1_1 : Int) (a1_2 : ByteArray), ((Lit.int .u8 a0_0).wf = true) → ((Lit.int .i64 a0_1).wf = true) → (a0_2.size ≤ 140737488351232) → ((Lit.int .u8 a1_0).wf = true) → ((Lit.int .i64 a1_1).wf = true) → (a1_2.size ≤ 140737488351232) → ∃ k, hindsightlaw02_CellSums.f k a0_0 a0_1 a0_2 a1_0 a1_1 a1_2 = some true
theorem hindsightlaw02_CellSums.walk (P : hindsightlaw02_CellSums.Pure) (a0_0 : Int) (a0_1 : Int) (a0_2 : ByteArray) (a1_0 : Int) (a1_1 : Int) (a1_2 : ByteArray) (w : World) (hg0_0 : (Lit.int .u8 a0_0).wf = true) (hg0_1 : (Lit.int .i64 a0_1).wf = true) (hg0_2 : a0_2.size ≤ 140737488351232) (hg1_0 : (Lit.int .u8 a1_0).wf = true) (hg1_1 : (Lit.int .i64 a1_1).wf = true) (hg1_2 : a1_2.size ≤ 140737488351232) :
  Calls Try.prog 11 #[.agg #[.int .u8 a0_0, .int .i64 a0_1, .string a0_2], .agg #[.int .u8 a1_0, .int .i64 a1_1, .string a1_2]] w fun e w' => e = .returned (.bool true) ∧ Below w.heap.size w w' := by
 obtain ⟨k, h⟩ := P a0_0 a0_1 a0_2 a1_0 a1_1 a1_2 hg0_0 hg0_1 hg0_2 hg1_0 hg1_1 hg1_2
 refine (hindsightlaw02_CellSums.calls k a0_0 a0_1 a0_2 a1_0 a1_1 a1_2 true w h).mono ?_
 rintro e w' ⟨rfl, hd⟩
 exact ⟨rfl, hd⟩

end Go.Proofs.Ytefpnnljflcmbaa.PCe
