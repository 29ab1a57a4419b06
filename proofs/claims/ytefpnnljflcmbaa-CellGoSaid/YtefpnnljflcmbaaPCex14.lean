-- Written by a program of this session (wip/tool), which goes by the kit's print.
import Derived.Test.YtefpnnljflcmbaaPCex0
import Derived.Test.YtefpnnljflcmbaaPCex1
import Derived.Test.YtefpnnljflcmbaaPCex6
import Derived.Test.YtefpnnljflcmbaaPCex7
import Derived.Test.YtefpnnljflcmbaaPCex9
import Derived.Test.YtefpnnljflcmbaaPCex11
import Derived.Test.YtefpnnljflcmbaaPCex13
namespace Go.Proofs.Ytefpnnljflcmbaa.PCe
open Go.RowKit Go.Proofs.YtefpnnljflcmbaaW.PrintWords Go.Proofs.YtefpnnljflcmbaaW.PrintLast Go.Proofs.YtefpnnljflcmbaaW.PrintMore
attribute [local go_sem] max2_int min2_int max_two min_two max_three min_three max_four min_four   -- for this text's walks alone
set_option linter.unusedVariables false
set_option linter.unusedSimpArgs false

attribute [local go_sem high] eqA35
/-! ### hindsightlaw02_alive: function 24 -/
theorem bN24 : type_of% @blk_drewN := @blk_drewN
theorem bD24 : type_of% @blk_drew := @blk_drew
theorem bA24 : type_of% @blk_alloc := @blk_alloc
theorem aM24 : type_of% @Aside0.mk := @Aside0.mk
def hindsightlaw02_alive.f (k : Nat)  : Option (Bool) := (hindsightref02_Number.f 9223372036854775807).bind fun bt182 => ((hindsightref02_Number.f 1).bind fun bt185 => ((cell_Add.f k bt182.1 bt182.2.1 bt182.2.2 bt185.1 bt185.2.1 bt185.2.2).bind fun bt188 => ((hindsightref02_Number.f 0).bind fun bt193 => ((cell_And.f k 0 0 (⟨#[]⟩ : ByteArray) bt193.1 bt193.2.1 bt193.2.2).bind fun bt196 => ((hindsightref02_Number.f (-3)).bind fun bt201 => ((hindsightref02_Number.f 5).bind fun bt204 => ((cell_Mul.f k bt201.1 bt201.2.1 bt201.2.2 bt204.1 bt204.2.1 bt204.2.2).bind fun bt207 => ((hindsightref02_Number.f 1).bind fun bt212 => ((hindsightref02_Number.f 2).bind fun bt215 => ((cell_Compare.f k bt212.1 bt212.2.1 bt212.2.2 bt215.1 bt215.2.1 bt215.2.2).bind fun bt218 => (if bt188.2.2.2 = 21 then ((hindsightref02_Number.f 0).bind fun bt221 => (if (bt196.1 == bt221.1 && (bt196.2.1 == bt221.2.1 && (bt196.2.2.1.toList == bt221.2.2.toList))) = true then (if bt196.2.2.2 = 0 then ((hindsightref02_Number.f (-15)).bind fun bt224 => (if (bt207.1 == bt224.1 && (bt207.2.1 == bt224.2.1 && (bt207.2.2.1.toList == bt224.2.2.toList))) = true then (if bt207.2.2.2 = 0 then (if bt218.1 = (-1) then (if bt218.2.1 = true then (some (bt218.2.2 == 0)) else (none)) else (none)) else (none)) else (none))) else (none)) else (none))) else (none))))))))))))
theorem hindsightlaw02_alive.mono : ∀ k, LeO (hindsightlaw02_alive.f k ) (hindsightlaw02_alive.f (k + 1) ) := by
 intro  k
 unfold hindsightlaw02_alive.f
 repeat' first
   | (with_reducible exact cell_Add.mono _ _ _ _ _ _ _)
   | (with_reducible exact cell_And.mono _ _ _ _ _ _ _)
   | (with_reducible exact cell_Compare.mono _ _ _ _ _ _ _)
   | (with_reducible exact cell_Mul.mono _ _ _ _ _ _ _)
   | (with_reducible exact LeO.refl _)
   | (with_reducible exact LeO.none _)
   | (with_reducible refine LeO.ite ?_ ?_)
   | (with_reducible refine LeO.bind ?_ (fun _ => ?_))
   | exact cell_Add.mono _ _ _ _ _ _ _
   | exact cell_And.mono _ _ _ _ _ _ _
   | exact cell_Compare.mono _ _ _ _ _ _ _
   | exact cell_Mul.mono _ _ _ _ _ _ _
   | exact LeO.none _
   | refine LeO.ite ?_ ?_
   | refine LeO.bind ?_ (fun _ => ?_)
def hindsightlaw02_alive.T5 : Bool × List (List Nat × List Nat) := (true, [([], []), ([0], [0]), ([1], [1]), ([2], [2]), ([2, 2], [2]), ([3, 4, 2], [2, 3, 4]), ([2, 5], [2, 5]), ([6, 4], [6]), ([7], [7]), ([8, 7], [7, 8]), ([7, 9], [7, 9]), ([10, 7], [10]), ([11], [11]), ([11, 11], [11]), ([12, 13, 11], [11, 12, 13]), ([11, 14], [11, 14]), ([15, 13], [15]), ([16], [16]), ([17, 16], [16, 17]), ([16, 18], [16, 18]), ([19, 16], [19]), ([20], [20]), ([21, 20], [20, 21]), ([20, 22], [20, 22]), ([23, 20], [23]), ([24], [24]), ([24, 25], [24, 25]), ([26, 24], [26]), ([27], [27]), ([28, 27], [27, 28]), ([27, 29], [27, 29]), ([30, 27, 0, 1, 2, 3, 4, 5, 6, 7, 8, 9, 10, 11, 12, 13, 14, 15, 16, 17, 18, 19, 20, 21, 22, 23, 24, 25, 26, 27, 28, 29, 30], [30])])
def hindsightlaw02_alive.B5 : List Nat := [0, 1, 3, 7, 7, 31, 63, 127, 255, 511, 1023, 2047, 4095, 4095, 16383, 32767, 65535, 131071, 262143, 524287, 1048575, 2097151, 4194303, 8388607, 16777215, 33554431, 67108863, 134217727, 268435455, 536870911, 1073741823, 2147483647]
theorem hindsightlaw02_alive.tab5 : rtab .any (opsOf Try.f24 5) = hindsightlaw02_alive.T5 := by kernel_rfl
theorem hindsightlaw02_alive.bits5 : waitsOk hindsightlaw02_alive.T5.2 hindsightlaw02_alive.B5 = true := by kernel_rfl
set_option maxHeartbeats 8000000 in
set_option maxRecDepth 100000 in
theorem hindsightlaw02_alive.calls (k : Nat)  (r : Bool) (w : World) (h : hindsightlaw02_alive.f k  = some r) :
  Calls Try.prog 24 #[] w fun e w' => e = .returned (.bool r) ∧ Below w.heap.size w w' := by
 have hu35 := Try.underlying35
 have HB := aM24 (Below.refl w.heap.size w)
 have H : ((hindsightref02_Number.f 9223372036854775807).bind fun bt182 => ((hindsightref02_Number.f 1).bind fun bt185 => ((cell_Add.f k bt182.1 bt182.2.1 bt182.2.2 bt185.1 bt185.2.1 bt185.2.2).bind fun bt188 => ((hindsightref02_Number.f 0).bind fun bt193 => ((cell_And.f k 0 0 (⟨#[]⟩ : ByteArray) bt193.1 bt193.2.1 bt193.2.2).bind fun bt196 => ((hindsightref02_Number.f (-3)).bind fun bt201 => ((hindsightref02_Number.f 5).bind fun bt204 => ((cell_Mul.f k bt201.1 bt201.2.1 bt201.2.2 bt204.1 bt204.2.1 bt204.2.2).bind fun bt207 => ((hindsightref02_Number.f 1).bind fun bt212 => ((hindsightref02_Number.f 2).bind fun bt215 => ((cell_Compare.f k bt212.1 bt212.2.1 bt212.2.2 bt215.1 bt215.2.1 bt215.2.2).bind fun bt218 => (if bt188.2.2.2 = 21 then ((hindsightref02_Number.f 0).bind fun bt221 => (if (bt196.1 == bt221.1 && (bt196.2.1 == bt221.2.1 && (bt196.2.2.1.toList == bt221.2.2.toList))) = true then (if bt196.2.2.2 = 0 then ((hindsightref02_Number.f (-15)).bind fun bt224 => (if (bt207.1 == bt224.1 && (bt207.2.1 == bt224.2.1 && (bt207.2.2.1.toList == bt224.2.2.toList))) = true then (if bt207.2.2.2 = 0 then (if bt218.1 = (-1) then (if bt218.2.1 = true then (some (bt218.2.2 == 0)) else (none)) else (none)) else (none)) else (none))) else (none)) else (none))) else (none))))))))))))) = some r := h
 clear h
 replace H := Option.bind_eq_some_iff.mp H
 obtain ⟨⟨t182, t183, t184⟩, A10, H⟩ := H
 replace H : ((hindsightref02_Number.f 1).bind fun bt185 => ((cell_Add.f k t182 t183 t184 bt185.1 bt185.2.1 bt185.2.2).bind fun bt188 => ((hindsightref02_Number.f 0).bind fun bt193 => ((cell_And.f k 0 0 (⟨#[]⟩ : ByteArray) bt193.1 bt193.2.1 bt193.2.2).bind fun bt196 => ((hindsightref02_Number.f (-3)).bind fun bt201 => ((hindsightref02_Number.f 5).bind fun bt204 => ((cell_Mul.f k bt201.1 bt201.2.1 bt201.2.2 bt204.1 bt204.2.1 bt204.2.2).bind fun bt207 => ((hindsightref02_Number.f 1).bind fun bt212 => ((hindsightref02_Number.f 2).bind fun bt215 => ((cell_Compare.f k bt212.1 bt212.2.1 bt212.2.2 bt215.1 bt215.2.1 bt215.2.2).bind fun bt218 => (if bt188.2.2.2 = 21 then ((hindsightref02_Number.f 0).bind fun bt221 => (if (bt196.1 == bt221.1 && (bt196.2.1 == bt221.2.1 && (bt196.2.2.1.toList == bt221.2.2.toList))) = true then (if bt196.2.2.2 = 0 then ((hindsightref02_Number.f (-15)).bind fun bt224 => (if (bt207.1 == bt224.1 && (bt207.2.1 == bt224.2.1 && (bt207.2.2.1.toList == bt224.2.2.toList))) = true then (if bt207.2.2.2 = 0 then (if bt218.1 = (-1) then (if bt218.2.1 = true then (some (bt218.2.2 == 0)) else (none)) else (none)) else (none)) else (none))) else (none)) else (none))) else (none)))))))))))) = some r := H
 have A1 := aM24 A10
 clear A10
 replace H := Option.bind_eq_some_iff.mp H
 obtain ⟨⟨t185, t186, t187⟩, A20, H⟩ := H
 replace H : ((cell_Add.f k t182 t183 t184 t185 t186 t187).bind fun bt188 => ((hindsightref02_Number.f 0).bind fun bt193 => ((cell_And.f k 0 0 (⟨#[]⟩ : ByteArray) bt193.1 bt193.2.1 bt193.2.2).bind fun bt196 => ((hindsightref02_Number.f (-3)).bind fun bt201 => ((hindsightref02_Number.f 5).bind fun bt204 => ((cell_Mul.f k bt201.1 bt201.2.1 bt201.2.2 bt204.1 bt204.2.1 bt204.2.2).bind fun bt207 => ((hindsightref02_Number.f 1).bind fun bt212 => ((hindsightref02_Number.f 2).bind fun bt215 => ((cell_Compare.f k bt212.1 bt212.2.1 bt212.2.2 bt215.1 bt215.2.1 bt215.2.2).bind fun bt218 => (if bt188.2.2.2 = 21 then ((hindsightref02_Number.f 0).bind fun bt221 => (if (bt196.1 == bt221.1 && (bt196.2.1 == bt221.2.1 && (bt196.2.2.1.toList == bt221.2.2.toList))) = true then (if bt196.2.2.2 = 0 then ((hindsightref02_Number.f (-15)).bind fun bt224 => (if (bt207.1 == bt224.1 && (bt207.2.1 == bt224.2.1 && (bt207.2.2.1.toList == bt224.2.2.toList))) = true then (if bt207.2.2.2 = 0 then (if bt218.1 = (-1) then (if bt218.2.1 = true then (some (bt218.2.2 == 0)) else (none)) else (none)) else (none)) else (none))) else (none)) else (none))) else (none))))))))))) = some r := H
 have A2 := aM24 A20
 clear A20
 replace H := Option.bind_eq_some_iff.mp H
 obtain ⟨⟨t188, t189, t190, t191⟩, A30, H⟩ := H
 replace H : ((hindsightref02_Number.f 0).bind fun bt193 => ((cell_And.f k 0 0 (⟨#[]⟩ : ByteArray) bt193.1 bt193.2.1 bt193.2.2).bind fun bt196 => ((hindsightref02_Number.f (-3)).bind fun bt201 => ((hindsightref02_Number.f 5).bind fun bt204 => ((cell_Mul.f k bt201.1 bt201.2.1 bt201.2.2 bt204.1 bt204.2.1 bt204.2.2).bind fun bt207 => ((hindsightref02_Number.f 1).bind fun bt212 => ((hindsightref02_Number.f 2).bind fun bt215 => ((cell_Compare.f k bt212.1 bt212.2.1 bt212.2.2 bt215.1 bt215.2.1 bt215.2.2).bind fun bt218 => (if t191 = 21 then ((hindsightref02_Number.f 0).bind fun bt221 => (if (bt196.1 == bt221.1 && (bt196.2.1 == bt221.2.1 && (bt196.2.2.1.toList == bt221.2.2.toList))) = true then (if bt196.2.2.2 = 0 then ((hindsightref02_Number.f (-15)).bind fun bt224 => (if (bt207.1 == bt224.1 && (bt207.2.1 == bt224.2.1 && (bt207.2.2.1.toList == bt224.2.2.toList))) = true then (if bt207.2.2.2 = 0 then (if bt218.1 = (-1) then (if bt218.2.1 = true then (some (bt218.2.2 == 0)) else (none)) else (none)) else (none)) else (none))) else (none)) else (none))) else (none)))))))))) = some r := H
 have A3 := aM24 A30
 clear A30
 replace H := Option.bind_eq_some_iff.mp H
 obtain ⟨⟨t193, t194, t195⟩, A40, H⟩ := H
 replace H : ((cell_And.f k 0 0 (⟨#[]⟩ : ByteArray) t193 t194 t195).bind fun bt196 => ((hindsightref02_Number.f (-3)).bind fun bt201 => ((hindsightref02_Number.f 5).bind fun bt204 => ((cell_Mul.f k bt201.1 bt201.2.1 bt201.2.2 bt204.1 bt204.2.1 bt204.2.2).bind fun bt207 => ((hindsightref02_Number.f 1).bind fun bt212 => ((hindsightref02_Number.f 2).bind fun bt215 => ((cell_Compare.f k bt212.1 bt212.2.1 bt212.2.2 bt215.1 bt215.2.1 bt215.2.2).bind fun bt218 => (if t191 = 21 then ((hindsightref02_Number.f 0).bind fun bt221 => (if (bt196.1 == bt221.1 && (bt196.2.1 == bt221.2.1 && (bt196.2.2.1.toList == bt221.2.2.toList))) = true then (if bt196.2.2.2 = 0 then ((hindsightref02_Number.f (-15)).bind fun bt224 => (if (bt207.1 == bt224.1 && (bt207.2.1 == bt224.2.1 && (bt207.2.2.1.toList == bt224.2.2.toList))) = true then (if bt207.2.2.2 = 0 then (if bt218.1 = (-1) then (if bt218.2.1 = true then (some (bt218.2.2 == 0)) else (none)) else (none)) else (none)) else (none))) else (none)) else (none))) else (none))))))))) = some r := H
 have A4 := aM24 A40
 clear A40
 replace H := Option.bind_eq_some_iff.mp H
 obtain ⟨⟨t196, t197, t198, t199⟩, A50, H⟩ := H
 replace H : ((hindsightref02_Number.f (-3)).bind fun bt201 => ((hindsightref02_Number.f 5).bind fun bt204 => ((cell_Mul.f k bt201.1 bt201.2.1 bt201.2.2 bt204.1 bt204.2.1 bt204.2.2).bind fun bt207 => ((hindsightref02_Number.f 1).bind fun bt212 => ((hindsightref02_Number.f 2).bind fun bt215 => ((cell_Compare.f k bt212.1 bt212.2.1 bt212.2.2 bt215.1 bt215.2.1 bt215.2.2).bind fun bt218 => (if t191 = 21 then ((hindsightref02_Number.f 0).bind fun bt221 => (if (t196 == bt221.1 && (t197 == bt221.2.1 && (t198.toList == bt221.2.2.toList))) = true then (if t199 = 0 then ((hindsightref02_Number.f (-15)).bind fun bt224 => (if (bt207.1 == bt224.1 && (bt207.2.1 == bt224.2.1 && (bt207.2.2.1.toList == bt224.2.2.toList))) = true then (if bt207.2.2.2 = 0 then (if bt218.1 = (-1) then (if bt218.2.1 = true then (some (bt218.2.2 == 0)) else (none)) else (none)) else (none)) else (none))) else (none)) else (none))) else (none)))))))) = some r := H
 have A5 := aM24 A50
 clear A50
 replace H := Option.bind_eq_some_iff.mp H
 obtain ⟨⟨t201, t202, t203⟩, A60, H⟩ := H
 replace H : ((hindsightref02_Number.f 5).bind fun bt204 => ((cell_Mul.f k t201 t202 t203 bt204.1 bt204.2.1 bt204.2.2).bind fun bt207 => ((hindsightref02_Number.f 1).bind fun bt212 => ((hindsightref02_Number.f 2).bind fun bt215 => ((cell_Compare.f k bt212.1 bt212.2.1 bt212.2.2 bt215.1 bt215.2.1 bt215.2.2).bind fun bt218 => (if t191 = 21 then ((hindsightref02_Number.f 0).bind fun bt221 => (if (t196 == bt221.1 && (t197 == bt221.2.1 && (t198.toList == bt221.2.2.toList))) = true then (if t199 = 0 then ((hindsightref02_Number.f (-15)).bind fun bt224 => (if (bt207.1 == bt224.1 && (bt207.2.1 == bt224.2.1 && (bt207.2.2.1.toList == bt224.2.2.toList))) = true then (if bt207.2.2.2 = 0 then (if bt218.1 = (-1) then (if bt218.2.1 = true then (some (bt218.2.2 == 0)) else (none)) else (none)) else (none)) else (none))) else (none)) else (none))) else (none))))))) = some r := H
 have A6 := aM24 A60
 clear A60
 replace H := Option.bind_eq_some_iff.mp H
 obtain ⟨⟨t204, t205, t206⟩, A70, H⟩ := H
 replace H : ((cell_Mul.f k t201 t202 t203 t204 t205 t206).bind fun bt207 => ((hindsightref02_Number.f 1).bind fun bt212 => ((hindsightref02_Number.f 2).bind fun bt215 => ((cell_Compare.f k bt212.1 bt212.2.1 bt212.2.2 bt215.1 bt215.2.1 bt215.2.2).bind fun bt218 => (if t191 = 21 then ((hindsightref02_Number.f 0).bind fun bt221 => (if (t196 == bt221.1 && (t197 == bt221.2.1 && (t198.toList == bt221.2.2.toList))) = true then (if t199 = 0 then ((hindsightref02_Number.f (-15)).bind fun bt224 => (if (bt207.1 == bt224.1 && (bt207.2.1 == bt224.2.1 && (bt207.2.2.1.toList == bt224.2.2.toList))) = true then (if bt207.2.2.2 = 0 then (if bt218.1 = (-1) then (if bt218.2.1 = true then (some (bt218.2.2 == 0)) else (none)) else (none)) else (none)) else (none))) else (none)) else (none))) else (none)))))) = some r := H
 have A7 := aM24 A70
 clear A70
 replace H := Option.bind_eq_some_iff.mp H
 obtain ⟨⟨t207, t208, t209, t210⟩, A80, H⟩ := H
 replace H : ((hindsightref02_Number.f 1).bind fun bt212 => ((hindsightref02_Number.f 2).bind fun bt215 => ((cell_Compare.f k bt212.1 bt212.2.1 bt212.2.2 bt215.1 bt215.2.1 bt215.2.2).bind fun bt218 => (if t191 = 21 then ((hindsightref02_Number.f 0).bind fun bt221 => (if (t196 == bt221.1 && (t197 == bt221.2.1 && (t198.toList == bt221.2.2.toList))) = true then (if t199 = 0 then ((hindsightref02_Number.f (-15)).bind fun bt224 => (if (t207 == bt224.1 && (t208 == bt224.2.1 && (t209.toList == bt224.2.2.toList))) = true then (if t210 = 0 then (if bt218.1 = (-1) then (if bt218.2.1 = true then (some (bt218.2.2 == 0)) else (none)) else (none)) else (none)) else (none))) else (none)) else (none))) else (none))))) = some r := H
 have A8 := aM24 A80
 clear A80
 replace H := Option.bind_eq_some_iff.mp H
 obtain ⟨⟨t212, t213, t214⟩, A90, H⟩ := H
 replace H : ((hindsightref02_Number.f 2).bind fun bt215 => ((cell_Compare.f k t212 t213 t214 bt215.1 bt215.2.1 bt215.2.2).bind fun bt218 => (if t191 = 21 then ((hindsightref02_Number.f 0).bind fun bt221 => (if (t196 == bt221.1 && (t197 == bt221.2.1 && (t198.toList == bt221.2.2.toList))) = true then (if t199 = 0 then ((hindsightref02_Number.f (-15)).bind fun bt224 => (if (t207 == bt224.1 && (t208 == bt224.2.1 && (t209.toList == bt224.2.2.toList))) = true then (if t210 = 0 then (if bt218.1 = (-1) then (if bt218.2.1 = true then (some (bt218.2.2 == 0)) else (none)) else (none)) else (none)) else (none))) else (none)) else (none))) else (none)))) = some r := H
 have A9 := aM24 A90
 clear A90
 replace H := Option.bind_eq_some_iff.mp H
 obtain ⟨⟨t215, t216, t217⟩, A100, H⟩ := H
 replace H : ((cell_Compare.f k t212 t213 t214 t215 t216 t217).bind fun bt218 => (if t191 = 21 then ((hindsightref02_Number.f 0).bind fun bt221 => (if (t196 == bt221.1 && (t197 == bt221.2.1 && (t198.toList == bt221.2.2.toList))) = true then (if t199 = 0 then ((hindsightref02_Number.f (-15)).bind fun bt224 => (if (t207 == bt224.1 && (t208 == bt224.2.1 && (t209.toList == bt224.2.2.toList))) = true then (if t210 = 0 then (if bt218.1 = (-1) then (if bt218.2.1 = true then (some (bt218.2.2 == 0)) else (none)) else (none)) else (none)) else (none))) else (none)) else (none))) else (none))) = some r := H
 have A10 := aM24 A100
 clear A100
 replace H := Option.bind_eq_some_iff.mp H
 obtain ⟨⟨t218, t219, t220⟩, A110, H⟩ := H
 replace H : (if t191 = 21 then ((hindsightref02_Number.f 0).bind fun bt221 => (if (t196 == bt221.1 && (t197 == bt221.2.1 && (t198.toList == bt221.2.2.toList))) = true then (if t199 = 0 then ((hindsightref02_Number.f (-15)).bind fun bt224 => (if (t207 == bt224.1 && (t208 == bt224.2.1 && (t209.toList == bt224.2.2.toList))) = true then (if t210 = 0 then (if t218 = (-1) then (if t219 = true then (some (t220 == 0)) else (none)) else (none)) else (none)) else (none))) else (none)) else (none))) else (none)) = some r := H
 have A11 := aM24 A110
 clear A110
 by_cases c12 : t191 = 21
 ·rw [if_pos c12] at H
  have c12b0 : (t191 == 21) = true := beq_iff_eq.mpr c12
  have c12b1 : (t191 != 21) = false := bne_eq_false_iff_eq.mpr c12
  clear c12
  replace H := Option.bind_eq_some_iff.mp H
  obtain ⟨⟨t221, t222, t223⟩, A130, H⟩ := H
  replace H : (if (t196 == t221 && (t197 == t222 && (t198.toList == t223.toList))) = true then (if t199 = 0 then ((hindsightref02_Number.f (-15)).bind fun bt224 => (if (t207 == bt224.1 && (t208 == bt224.2.1 && (t209.toList == bt224.2.2.toList))) = true then (if t210 = 0 then (if t218 = (-1) then (if t219 = true then (some (t220 == 0)) else (none)) else (none)) else (none)) else (none))) else (none)) else (none)) = some r := H
  have A13 := aM24 A130
  clear A130
  by_cases c14 : (t196 == t221 && (t197 == t222 && (t198.toList == t223.toList))) = true
  ·rw [if_pos c14] at H
   have c14b0 : (t196 == t221 && (t197 == t222 && (t198.toList == t223.toList))) = true := c14
   (try (have c14b1 : decide (t196 = t221 && (t197 == t222 && (t198.toList == t223.toList))) = true := by simpa using c14))
   (try (have c14b2 : (t196 == t221 && (t197 == t222 && (t198.toList == t223.toList))) = true := by simpa using c14))
   (try (have c14b3 : (!(t196 == t221 && (t197 == t222 && (t198.toList == t223.toList)))) = false := by first | exact c14 | simpa using c14))
   clear c14
   by_cases c15 : t199 = 0
   ·rw [if_pos c15] at H
    have c15b0 : (t199 == 0) = true := beq_iff_eq.mpr c15
    have c15b1 : (t199 != 0) = false := bne_eq_false_iff_eq.mpr c15
    clear c15
    replace H := Option.bind_eq_some_iff.mp H
    obtain ⟨⟨t224, t225, t226⟩, A160, H⟩ := H
    replace H : (if (t207 == t224 && (t208 == t225 && (t209.toList == t226.toList))) = true then (if t210 = 0 then (if t218 = (-1) then (if t219 = true then (some (t220 == 0)) else (none)) else (none)) else (none)) else (none)) = some r := H
    have A16 := aM24 A160
    clear A160
    by_cases c17 : (t207 == t224 && (t208 == t225 && (t209.toList == t226.toList))) = true
    ·rw [if_pos c17] at H
     have c17b0 : (t207 == t224 && (t208 == t225 && (t209.toList == t226.toList))) = true := c17
     (try (have c17b1 : decide (t207 = t224 && (t208 == t225 && (t209.toList == t226.toList))) = true := by simpa using c17))
     (try (have c17b2 : (t207 == t224 && (t208 == t225 && (t209.toList == t226.toList))) = true := by simpa using c17))
     (try (have c17b3 : (!(t207 == t224 && (t208 == t225 && (t209.toList == t226.toList)))) = false := by first | exact c17 | simpa using c17))
     clear c17
     by_cases c18 : t210 = 0
     ·rw [if_pos c18] at H
      have c18b0 : (t210 == 0) = true := beq_iff_eq.mpr c18
      have c18b1 : (t210 != 0) = false := bne_eq_false_iff_eq.mpr c18
      clear c18
      by_cases c19 : t218 = (-1)
      ·rw [if_pos c19] at H
       have c19b0 : (t218 == (-1)) = true := beq_iff_eq.mpr c19
       have c19b1 : (t218 != (-1)) = false := bne_eq_false_iff_eq.mpr c19
       clear c19
       by_cases c20 : t219 = true
       ·subst c20
        have H1 : (some (t220 == 0)) = some r := by rw [if_pos rfl] at H; exact H
        clear H
        have H := H1
        clear H1
        obtain rfl := Option.some.inj H
        go_enter Try.func24, Try.ntmps24
        try go_wp2_with (first | ((with_reducible refine gate_callee (f := 32) rfl ?_); refine goesL_ (some 11) rfl rfl Try.func32 (by kernel_rfl) rfl #[.int .i64 9223372036854775807] rfl (by (try simp only [List.map_toArray, List.map_cons, List.map_nil]); first | done | rfl | (simp only [List.length_drop, List.length_take]; rfl)) ?_; (with_reducible refine (hindsightref02_Number.calls 9223372036854775807 t182 t183 t184 _ A1.out).mono ?_); rintro e w21 ⟨rfl, hb⟩; refine ⟨_, rfl, ?_⟩; have n0_ := aM24 (below_step (by repeat (first | (with_reducible first | exact HB.out | apply below_alloc | apply pw_below_drewN | apply below_drew1) | exact HB.out)) hb); clear HB; have HB := n0_; clear n0_; (try clear hb); (try clear hb2); (try clear hk); (try clear hi)) | ((with_reducible refine gate_callee (f := 32) rfl ?_); refine goesL_ (some 12) rfl rfl Try.func32 (by kernel_rfl) rfl #[.int .i64 1] rfl (by (try simp only [List.map_toArray, List.map_cons, List.map_nil]); first | done | rfl | (simp only [List.length_drop, List.length_take]; rfl)) ?_; (with_reducible refine (hindsightref02_Number.calls 1 t185 t186 t187 _ A2.out).mono ?_); rintro e w22 ⟨rfl, hb⟩; refine ⟨_, rfl, ?_⟩; have n0_ := aM24 (below_step (by repeat (first | (with_reducible first | exact HB.out | apply below_alloc | apply pw_below_drewN | apply below_drew1) | exact HB.out)) hb); clear HB; have HB := n0_; clear n0_; (try clear hb); (try clear hb2); (try clear hk); (try clear hi)) | ((with_reducible refine gate_callee (f := 49) rfl ?_); refine goesL_ (some 13) rfl rfl Try.func49 (by kernel_rfl) rfl #[.agg #[.int .u8 t182, .int .i64 t183, .string t184], .agg #[.int .u8 t185, .int .i64 t186, .string t187]] rfl (by (try simp only [List.map_toArray, List.map_cons, List.map_nil]); first | done | rfl | (simp only [List.length_drop, List.length_take]; rfl)) ?_; (with_reducible refine (cell_Add.calls k t182 t183 t184 t185 t186 t187 t188 t189 t190 t191 _ A3.out).mono ?_); rintro e w23 ⟨rfl, hb⟩; refine ⟨_, rfl, ?_⟩; have n0_ := aM24 (below_step (by repeat (first | (with_reducible first | exact HB.out | apply below_alloc | apply pw_below_drewN | apply below_drew1) | exact HB.out)) hb); clear HB; have HB := n0_; clear n0_; (try clear hb); (try clear hb2); (try clear hk); (try clear hi)) | ((with_reducible refine gate_dst (N := 1) rfl ?_); refine box_event ?hg (N := 1) ?hd (cs := #[.int .u8 0, .int .i64 0, .string (⟨#[]⟩ : ByteArray)]) (t := 35) ?hr ?_; (case hd => rfl); (case hg => rfl); (case hr => first | (go_simp; done) | (go_simp; rfl)); intro gb192 hg w24 hbox hb; have n0_ := aM24 (below_step (by repeat (first | (with_reducible first | exact HB.out | apply below_alloc | apply pw_below_drewN | apply below_drew1) | exact HB.out)) hb); have n1_ := aM24 (hbox); have n2_ := aM24 ((by rw [hg]; exact (below_size (by repeat (first | (with_reducible first | exact HB.out | apply below_alloc | apply pw_below_drewN | apply below_drew1) | exact HB.out))) : w.heap.size ≤ gb192)); have n3_ := aM24 ((by rw [hg]; exact (below_size (by repeat (first | (with_reducible first | exact HB.out | apply below_alloc | apply pw_below_drewN | apply below_drew1) | exact HB.out))) : w.heap.size ≤ gb192)); clear HB; have HB := n0_; have BK192 := n1_; have GW192 := n2_; have GE192 := n3_; clear n0_ n1_ n2_ n3_; clear hb hbox hg; have hcz25_0 : w24.cell? ⟨gb192, 0, none⟩ = some (.int .u8 0) := (blk_cell BK192.out 0).trans rfl; have hcz25_1 : w24.cell? ⟨gb192, 1, none⟩ = some (.int .i64 0) := (blk_cell BK192.out 1).trans rfl; have hcz25_2 : w24.cell? ⟨gb192, 2, none⟩ = some (.string (⟨#[]⟩ : ByteArray)) := (blk_cell BK192.out 2).trans rfl; have hfz25_0 := blk_frozen BK192.out 0; have hfz25_1 := blk_frozen BK192.out 1; have hfz25_2 := blk_frozen BK192.out 2) | ((with_reducible refine gate_callee (f := 32) rfl ?_); refine goesL_ (some 18) rfl rfl Try.func32 (by kernel_rfl) rfl #[.int .i64 0] rfl (by (try simp only [List.map_toArray, List.map_cons, List.map_nil]); first | done | rfl | (simp only [List.length_drop, List.length_take]; rfl)) ?_; (with_reducible refine (hindsightref02_Number.calls 0 t193 t194 t195 _ A4.out).mono ?_); rintro e w26 ⟨rfl, hb⟩; refine ⟨_, rfl, ?_⟩; have n0_ := aM24 (blk_below (g := gb192) (o := .cells #[.int .u8 t188, .int .i64 t189, .string t190] 35 (0, 0)) (by (with_reducible repeat (first | refine bN24 ?_ _ | refine bD24 ?_ | refine bA24 ?_ _)); refine blk_put (cs := #[.int .u8 t188, .int .i64 t189, .string (⟨#[]⟩ : ByteArray)]) ?_ 2 _ rfl; (with_reducible repeat (first | refine bN24 ?_ _ | refine bD24 ?_ | refine bA24 ?_ _)); refine blk_put (cs := #[.int .u8 t188, .int .i64 0, .string (⟨#[]⟩ : ByteArray)]) ?_ 1 _ rfl; (with_reducible repeat (first | refine bN24 ?_ _ | refine bD24 ?_ | refine bA24 ?_ _)); refine blk_put (cs := #[.int .u8 0, .int .i64 0, .string (⟨#[]⟩ : ByteArray)]) ?_ 0 _ rfl; (with_reducible repeat (first | refine bN24 ?_ _ | refine bD24 ?_ | refine bA24 ?_ _)); exact BK192.out) hb); have n1_ := aM24 (below_step (by repeat (first | (with_reducible first | exact HB.out | apply below_alloc | apply pw_below_drewN | apply below_drew1 | refine below_set ?_ GE192.out) | exact HB.out)) hb); clear BK192; clear HB; have BK192 := n0_; have HB := n1_; clear n0_ n1_; (try clear hb); (try clear hb2); (try clear hk); (try clear hi)) | ((with_reducible refine gate_callee (f := 33) rfl ?_); refine goesL_ (some 19) rfl rfl Try.func33 (by kernel_rfl) rfl #[.agg #[.int .u8 0, .int .i64 0, .string (⟨#[]⟩ : ByteArray)], .agg #[.int .u8 t193, .int .i64 t194, .string t195]] rfl (by (try simp only [List.map_toArray, List.map_cons, List.map_nil]); first | done | rfl | (simp only [List.length_drop, List.length_take]; rfl)) ?_; (with_reducible refine (cell_And.calls k 0 0 (⟨#[]⟩ : ByteArray) t193 t194 t195 t196 t197 t198 t199 _ A5.out).mono ?_); rintro e w27 ⟨rfl, hb⟩; refine ⟨_, rfl, ?_⟩; have n0_ := aM24 (blk_below (g := gb192) (o := .cells #[.int .u8 t188, .int .i64 t189, .string t190] 35 (0, 0)) (by (with_reducible repeat (first | refine bN24 ?_ _ | refine bD24 ?_ | refine bA24 ?_ _)); exact BK192.out) hb); have n1_ := aM24 (below_step (by repeat (first | (with_reducible first | exact HB.out | apply below_alloc | apply pw_below_drewN | apply below_drew1 | refine below_set ?_ GE192.out) | exact HB.out)) hb); clear BK192; clear HB; have BK192 := n0_; have HB := n1_; clear n0_ n1_; (try clear hb); (try clear hb2); (try clear hk); (try clear hi)) | ((with_reducible refine gate_dst (N := 3) rfl ?_); refine box_event ?hg (N := 3) ?hd (cs := #[.int .u8 0, .int .i64 0, .string (⟨#[]⟩ : ByteArray)]) (t := 35) ?hr ?_; (case hd => rfl); (case hg => rfl); (case hr => first | (go_simp; done) | (go_simp; rfl)); intro gb200 hg w28 hbox hb; have n0_ := aM24 (blk_below (g := gb192) (o := .cells #[.int .u8 t188, .int .i64 t189, .string t190] 35 (0, 0)) (by (with_reducible repeat (first | refine bN24 ?_ _ | refine bD24 ?_ | refine bA24 ?_ _)); exact BK192.out) hb); have n1_ := aM24 (below_step (by repeat (first | (with_reducible first | exact HB.out | apply below_alloc | apply pw_below_drewN | apply below_drew1 | refine below_set ?_ GE192.out) | exact HB.out)) hb); have n2_ := aM24 (hbox); have n3_ := aM24 ((by rw [hg]; exact (below_size (by repeat (first | (with_reducible first | exact HB.out | apply below_alloc | apply pw_below_drewN | apply below_drew1 | refine below_set ?_ GE192.out) | exact HB.out))) : w.heap.size ≤ gb200)); have n4_ := aM24 ((by rw [hg]; exact (below_size (by repeat (first | (with_reducible first | exact HB.out | apply below_alloc | apply pw_below_drewN | apply below_drew1 | refine below_set ?_ GE192.out) | exact HB.out))) : w.heap.size ≤ gb200)); have n5_ := aM24 ((by rw [hg]; exact Nat.ne_of_lt (blk_lt (g := gb192) (o := .cells #[.int .u8 t188, .int .i64 t189, .string t190] 35 (0, 0)) (by (with_reducible repeat (first | refine bN24 ?_ _ | refine bD24 ?_ | refine bA24 ?_ _)); exact BK192.out)) : gb192 ≠ gb200)); have n6_ := aM24 ((by rw [hg]; exact Nat.ne_of_gt (blk_lt (g := gb192) (o := .cells #[.int .u8 t188, .int .i64 t189, .string t190] 35 (0, 0)) (by (with_reducible repeat (first | refine bN24 ?_ _ | refine bD24 ?_ | refine bA24 ?_ _)); exact BK192.out)) : gb200 ≠ gb192)); clear BK192; clear HB; have BK192 := n0_; have HB := n1_; have BK200 := n2_; have GW200 := n3_; have GE200 := n4_; have NB192_200 := n5_; have NB200_192 := n6_; clear n0_ n1_ n2_ n3_ n4_ n5_ n6_; clear hb hbox hg; have hnb29 := NB200_192.out; have hnc29 := NB192_200.out; have hcz30_0 : w28.cell? ⟨gb200, 0, none⟩ = some (.int .u8 0) := (blk_cell BK200.out 0).trans rfl; have hcz30_1 : w28.cell? ⟨gb200, 1, none⟩ = some (.int .i64 0) := (blk_cell BK200.out 1).trans rfl; have hcz30_2 : w28.cell? ⟨gb200, 2, none⟩ = some (.string (⟨#[]⟩ : ByteArray)) := (blk_cell BK200.out 2).trans rfl; have hfz30_0 := blk_frozen BK200.out 0; have hfz30_1 := blk_frozen BK200.out 1; have hfz30_2 := blk_frozen BK200.out 2) | ((with_reducible refine gate_callee (f := 32) rfl ?_); refine goesL_ (some 23) rfl rfl Try.func32 (by kernel_rfl) rfl #[.int .i64 (-3)] rfl (by (try simp only [List.map_toArray, List.map_cons, List.map_nil]); first | done | rfl | (simp only [List.length_drop, List.length_take]; rfl)) ?_; (with_reducible refine (hindsightref02_Number.calls (-3) t201 t202 t203 _ A6.out).mono ?_); rintro e w31 ⟨rfl, hb⟩; refine ⟨_, rfl, ?_⟩; have n0_ := aM24 (blk_below (g := gb192) (o := .cells #[.int .u8 t188, .int .i64 t189, .string t190] 35 (0, 0)) (by (with_reducible repeat (first | refine bN24 ?_ _ | refine bD24 ?_ | refine bA24 ?_ _ | refine blk_far ?_ NB192_200.out _)); exact BK192.out) hb); have n1_ := aM24 (blk_below (g := gb200) (o := .cells #[.int .u8 t196, .int .i64 t197, .string t198] 35 (0, 0)) (by (with_reducible repeat (first | refine bN24 ?_ _ | refine bD24 ?_ | refine bA24 ?_ _)); refine blk_put (cs := #[.int .u8 t196, .int .i64 t197, .string (⟨#[]⟩ : ByteArray)]) ?_ 2 _ rfl; (with_reducible repeat (first | refine bN24 ?_ _ | refine bD24 ?_ | refine bA24 ?_ _)); refine blk_put (cs := #[.int .u8 t196, .int .i64 0, .string (⟨#[]⟩ : ByteArray)]) ?_ 1 _ rfl; (with_reducible repeat (first | refine bN24 ?_ _ | refine bD24 ?_ | refine bA24 ?_ _)); refine blk_put (cs := #[.int .u8 0, .int .i64 0, .string (⟨#[]⟩ : ByteArray)]) ?_ 0 _ rfl; (with_reducible repeat (first | refine bN24 ?_ _ | refine bD24 ?_ | refine bA24 ?_ _)); exact BK200.out) hb); have n2_ := aM24 (below_step (by repeat (first | (with_reducible first | exact HB.out | apply below_alloc | apply pw_below_drewN | apply below_drew1 | refine below_set ?_ GE192.out | refine below_set ?_ GE200.out) | exact HB.out)) hb); clear BK192; clear BK200; clear HB; have BK192 := n0_; have BK200 := n1_; have HB := n2_; clear n0_ n1_ n2_; (try clear hb); (try clear hb2); (try clear hk); (try clear hi)) | ((with_reducible refine gate_callee (f := 32) rfl ?_); refine goesL_ (some 24) rfl rfl Try.func32 (by kernel_rfl) rfl #[.int .i64 5] rfl (by (try simp only [List.map_toArray, List.map_cons, List.map_nil]); first | done | rfl | (simp only [List.length_drop, List.length_take]; rfl)) ?_; (with_reducible refine (hindsightref02_Number.calls 5 t204 t205 t206 _ A7.out).mono ?_); rintro e w32 ⟨rfl, hb⟩; refine ⟨_, rfl, ?_⟩; have n0_ := aM24 (blk_below (g := gb192) (o := .cells #[.int .u8 t188, .int .i64 t189, .string t190] 35 (0, 0)) (by (with_reducible repeat (first | refine bN24 ?_ _ | refine bD24 ?_ | refine bA24 ?_ _)); exact BK192.out) hb); have n1_ := aM24 (blk_below (g := gb200) (o := .cells #[.int .u8 t196, .int .i64 t197, .string t198] 35 (0, 0)) (by (with_reducible repeat (first | refine bN24 ?_ _ | refine bD24 ?_ | refine bA24 ?_ _)); exact BK200.out) hb); have n2_ := aM24 (below_step (by repeat (first | (with_reducible first | exact HB.out | apply below_alloc | apply pw_below_drewN | apply below_drew1 | refine below_set ?_ GE192.out | refine below_set ?_ GE200.out) | exact HB.out)) hb); clear BK192; clear BK200; clear HB; have BK192 := n0_; have BK200 := n1_; have HB := n2_; clear n0_ n1_ n2_; (try clear hb); (try clear hb2); (try clear hk); (try clear hi)) | ((with_reducible refine gate_callee (f := 53) rfl ?_); refine goesL_ (some 25) rfl rfl Try.func53 (by kernel_rfl) rfl #[.agg #[.int .u8 t201, .int .i64 t202, .string t203], .agg #[.int .u8 t204, .int .i64 t205, .string t206]] rfl (by (try simp only [List.map_toArray, List.map_cons, List.map_nil]); first | done | rfl | (simp only [List.length_drop, List.length_take]; rfl)) ?_; (with_reducible refine (cell_Mul.calls k t201 t202 t203 t204 t205 t206 t207 t208 t209 t210 _ A8.out).mono ?_); rintro e w33 ⟨rfl, hb⟩; refine ⟨_, rfl, ?_⟩; have n0_ := aM24 (blk_below (g := gb192) (o := .cells #[.int .u8 t188, .int .i64 t189, .string t190] 35 (0, 0)) (by (with_reducible repeat (first | refine bN24 ?_ _ | refine bD24 ?_ | refine bA24 ?_ _)); exact BK192.out) hb); have n1_ := aM24 (blk_below (g := gb200) (o := .cells #[.int .u8 t196, .int .i64 t197, .string t198] 35 (0, 0)) (by (with_reducible repeat (first | refine bN24 ?_ _ | refine bD24 ?_ | refine bA24 ?_ _)); exact BK200.out) hb); have n2_ := aM24 (below_step (by repeat (first | (with_reducible first | exact HB.out | apply below_alloc | apply pw_below_drewN | apply below_drew1 | refine below_set ?_ GE192.out | refine below_set ?_ GE200.out) | exact HB.out)) hb); clear BK192; clear BK200; clear HB; have BK192 := n0_; have BK200 := n1_; have HB := n2_; clear n0_ n1_ n2_; (try clear hb); (try clear hb2); (try clear hk); (try clear hi)) | ((with_reducible refine gate_dst (N := 5) rfl ?_); refine box_event ?hg (N := 5) ?hd (cs := #[.int .u8 0, .int .i64 0, .string (⟨#[]⟩ : ByteArray)]) (t := 35) ?hr ?_; (case hd => rfl); (case hg => rfl); (case hr => first | (go_simp; done) | (go_simp; rfl)); intro gb211 hg w34 hbox hb; have n0_ := aM24 (blk_below (g := gb192) (o := .cells #[.int .u8 t188, .int .i64 t189, .string t190] 35 (0, 0)) (by (with_reducible repeat (first | refine bN24 ?_ _ | refine bD24 ?_ | refine bA24 ?_ _)); exact BK192.out) hb); have n1_ := aM24 (blk_below (g := gb200) (o := .cells #[.int .u8 t196, .int .i64 t197, .string t198] 35 (0, 0)) (by (with_reducible repeat (first | refine bN24 ?_ _ | refine bD24 ?_ | refine bA24 ?_ _)); exact BK200.out) hb); have n2_ := aM24 (below_step (by repeat (first | (with_reducible first | exact HB.out | apply below_alloc | apply pw_below_drewN | apply below_drew1 | refine below_set ?_ GE192.out | refine below_set ?_ GE200.out) | exact HB.out)) hb); have n3_ := aM24 (hbox); have n4_ := aM24 ((by rw [hg]; exact (below_size (by repeat (first | (with_reducible first | exact HB.out | apply below_alloc | apply pw_below_drewN | apply below_drew1 | refine below_set ?_ GE192.out | refine below_set ?_ GE200.out) | exact HB.out))) : w.heap.size ≤ gb211)); have n5_ := aM24 ((by rw [hg]; exact (below_size (by repeat (first | (with_reducible first | exact HB.out | apply below_alloc | apply pw_below_drewN | apply below_drew1 | refine below_set ?_ GE192.out | refine below_set ?_ GE200.out) | exact HB.out))) : w.heap.size ≤ gb211)); have n6_ := aM24 ((by rw [hg]; exact Nat.ne_of_lt (blk_lt (g := gb192) (o := .cells #[.int .u8 t188, .int .i64 t189, .string t190] 35 (0, 0)) (by (with_reducible repeat (first | refine bN24 ?_ _ | refine bD24 ?_ | refine bA24 ?_ _)); exact BK192.out)) : gb192 ≠ gb211)); have n7_ := aM24 ((by rw [hg]; exact Nat.ne_of_gt (blk_lt (g := gb192) (o := .cells #[.int .u8 t188, .int .i64 t189, .string t190] 35 (0, 0)) (by (with_reducible repeat (first | refine bN24 ?_ _ | refine bD24 ?_ | refine bA24 ?_ _)); exact BK192.out)) : gb211 ≠ gb192)); have n8_ := aM24 ((by rw [hg]; exact Nat.ne_of_lt (blk_lt (g := gb200) (o := .cells #[.int .u8 t196, .int .i64 t197, .string t198] 35 (0, 0)) (by (with_reducible repeat (first | refine bN24 ?_ _ | refine bD24 ?_ | refine bA24 ?_ _)); exact BK200.out)) : gb200 ≠ gb211)); have n9_ := aM24 ((by rw [hg]; exact Nat.ne_of_gt (blk_lt (g := gb200) (o := .cells #[.int .u8 t196, .int .i64 t197, .string t198] 35 (0, 0)) (by (with_reducible repeat (first | refine bN24 ?_ _ | refine bD24 ?_ | refine bA24 ?_ _)); exact BK200.out)) : gb211 ≠ gb200)); clear BK192; clear BK200; clear HB; have BK192 := n0_; have BK200 := n1_; have HB := n2_; have BK211 := n3_; have GW211 := n4_; have GE211 := n5_; have NB192_211 := n6_; have NB211_192 := n7_; have NB200_211 := n8_; have NB211_200 := n9_; clear n0_ n1_ n2_ n3_ n4_ n5_ n6_ n7_ n8_ n9_; clear hb hbox hg; have hnb35 := NB211_192.out; have hnc35 := NB192_211.out; have hnb36 := NB211_200.out; have hnc36 := NB200_211.out; have hcz37_0 : w34.cell? ⟨gb211, 0, none⟩ = some (.int .u8 0) := (blk_cell BK211.out 0).trans rfl; have hcz37_1 : w34.cell? ⟨gb211, 1, none⟩ = some (.int .i64 0) := (blk_cell BK211.out 1).trans rfl; have hcz37_2 : w34.cell? ⟨gb211, 2, none⟩ = some (.string (⟨#[]⟩ : ByteArray)) := (blk_cell BK211.out 2).trans rfl; have hfz37_0 := blk_frozen BK211.out 0; have hfz37_1 := blk_frozen BK211.out 1; have hfz37_2 := blk_frozen BK211.out 2) | ((with_reducible refine gate_callee (f := 32) rfl ?_); refine goesL_ (some 29) rfl rfl Try.func32 (by kernel_rfl) rfl #[.int .i64 1] rfl (by (try simp only [List.map_toArray, List.map_cons, List.map_nil]); first | done | rfl | (simp only [List.length_drop, List.length_take]; rfl)) ?_; (with_reducible refine (hindsightref02_Number.calls 1 t212 t213 t214 _ A9.out).mono ?_); rintro e w38 ⟨rfl, hb⟩; refine ⟨_, rfl, ?_⟩; have n0_ := aM24 (blk_below (g := gb192) (o := .cells #[.int .u8 t188, .int .i64 t189, .string t190] 35 (0, 0)) (by (with_reducible repeat (first | refine bN24 ?_ _ | refine bD24 ?_ | refine bA24 ?_ _ | refine blk_far ?_ NB192_211.out _)); exact BK192.out) hb); have n1_ := aM24 (blk_below (g := gb200) (o := .cells #[.int .u8 t196, .int .i64 t197, .string t198] 35 (0, 0)) (by (with_reducible repeat (first | refine bN24 ?_ _ | refine bD24 ?_ | refine bA24 ?_ _ | refine blk_far ?_ NB200_211.out _)); exact BK200.out) hb); have n2_ := aM24 (blk_below (g := gb211) (o := .cells #[.int .u8 t207, .int .i64 t208, .string t209] 35 (0, 0)) (by (with_reducible repeat (first | refine bN24 ?_ _ | refine bD24 ?_ | refine bA24 ?_ _)); refine blk_put (cs := #[.int .u8 t207, .int .i64 t208, .string (⟨#[]⟩ : ByteArray)]) ?_ 2 _ rfl; (with_reducible repeat (first | refine bN24 ?_ _ | refine bD24 ?_ | refine bA24 ?_ _)); refine blk_put (cs := #[.int .u8 t207, .int .i64 0, .string (⟨#[]⟩ : ByteArray)]) ?_ 1 _ rfl; (with_reducible repeat (first | refine bN24 ?_ _ | refine bD24 ?_ | refine bA24 ?_ _)); refine blk_put (cs := #[.int .u8 0, .int .i64 0, .string (⟨#[]⟩ : ByteArray)]) ?_ 0 _ rfl; (with_reducible repeat (first | refine bN24 ?_ _ | refine bD24 ?_ | refine bA24 ?_ _)); exact BK211.out) hb); have n3_ := aM24 (below_step (by repeat (first | (with_reducible first | exact HB.out | apply below_alloc | apply pw_below_drewN | apply below_drew1 | refine below_set ?_ GE192.out | refine below_set ?_ GE200.out | refine below_set ?_ GE211.out) | exact HB.out)) hb); clear BK192; clear BK200; clear BK211; clear HB; have BK192 := n0_; have BK200 := n1_; have BK211 := n2_; have HB := n3_; clear n0_ n1_ n2_ n3_; (try clear hb); (try clear hb2); (try clear hk); (try clear hi)) | ((with_reducible refine gate_callee (f := 32) rfl ?_); refine goesL_ (some 30) rfl rfl Try.func32 (by kernel_rfl) rfl #[.int .i64 2] rfl (by (try simp only [List.map_toArray, List.map_cons, List.map_nil]); first | done | rfl | (simp only [List.length_drop, List.length_take]; rfl)) ?_; (with_reducible refine (hindsightref02_Number.calls 2 t215 t216 t217 _ A10.out).mono ?_); rintro e w39 ⟨rfl, hb⟩; refine ⟨_, rfl, ?_⟩; have n0_ := aM24 (blk_below (g := gb192) (o := .cells #[.int .u8 t188, .int .i64 t189, .string t190] 35 (0, 0)) (by (with_reducible repeat (first | refine bN24 ?_ _ | refine bD24 ?_ | refine bA24 ?_ _)); exact BK192.out) hb); have n1_ := aM24 (blk_below (g := gb200) (o := .cells #[.int .u8 t196, .int .i64 t197, .string t198] 35 (0, 0)) (by (with_reducible repeat (first | refine bN24 ?_ _ | refine bD24 ?_ | refine bA24 ?_ _)); exact BK200.out) hb); have n2_ := aM24 (blk_below (g := gb211) (o := .cells #[.int .u8 t207, .int .i64 t208, .string t209] 35 (0, 0)) (by (with_reducible repeat (first | refine bN24 ?_ _ | refine bD24 ?_ | refine bA24 ?_ _)); exact BK211.out) hb); have n3_ := aM24 (below_step (by repeat (first | (with_reducible first | exact HB.out | apply below_alloc | apply pw_below_drewN | apply below_drew1 | refine below_set ?_ GE192.out | refine below_set ?_ GE200.out | refine below_set ?_ GE211.out) | exact HB.out)) hb); clear BK192; clear BK200; clear BK211; clear HB; have BK192 := n0_; have BK200 := n1_; have BK211 := n2_; have HB := n3_; clear n0_ n1_ n2_ n3_; (try clear hb); (try clear hb2); (try clear hk); (try clear hi)) | ((with_reducible refine gate_callee (f := 25) rfl ?_); refine goesL_ (some 31) rfl rfl Try.func25 (by kernel_rfl) rfl #[.agg #[.int .u8 t212, .int .i64 t213, .string t214], .agg #[.int .u8 t215, .int .i64 t216, .string t217]] rfl (by (try simp only [List.map_toArray, List.map_cons, List.map_nil]); first | done | rfl | (simp only [List.length_drop, List.length_take]; rfl)) ?_; (with_reducible refine (cell_Compare.calls k t212 t213 t214 t215 t216 t217 t218 true t220 _ A11.out).mono ?_); rintro e w40 ⟨rfl, hb⟩; refine ⟨_, rfl, ?_⟩; have n0_ := aM24 (blk_below (g := gb192) (o := .cells #[.int .u8 t188, .int .i64 t189, .string t190] 35 (0, 0)) (by (with_reducible repeat (first | refine bN24 ?_ _ | refine bD24 ?_ | refine bA24 ?_ _)); exact BK192.out) hb); have n1_ := aM24 (blk_below (g := gb200) (o := .cells #[.int .u8 t196, .int .i64 t197, .string t198] 35 (0, 0)) (by (with_reducible repeat (first | refine bN24 ?_ _ | refine bD24 ?_ | refine bA24 ?_ _)); exact BK200.out) hb); have n2_ := aM24 (blk_below (g := gb211) (o := .cells #[.int .u8 t207, .int .i64 t208, .string t209] 35 (0, 0)) (by (with_reducible repeat (first | refine bN24 ?_ _ | refine bD24 ?_ | refine bA24 ?_ _)); exact BK211.out) hb); have n3_ := aM24 (below_step (by repeat (first | (with_reducible first | exact HB.out | apply below_alloc | apply pw_below_drewN | apply below_drew1 | refine below_set ?_ GE192.out | refine below_set ?_ GE200.out | refine below_set ?_ GE211.out) | exact HB.out)) hb); clear BK192; clear BK200; clear BK211; clear HB; have BK192 := n0_; have BK200 := n1_; have BK211 := n2_; have HB := n3_; clear n0_ n1_ n2_ n3_; (try clear hb); (try clear hb2); (try clear hk); (try clear hi)))
        have n0_ := aM24 (bD24 BK192.out)
        have n1_ := aM24 (bD24 BK200.out)
        have n2_ := aM24 (bD24 BK211.out)
        have n3_ := aM24 (below_drew1 HB.out)
        clear BK192
        clear BK200
        clear BK211
        clear HB
        have BK192 := n0_
        have BK200 := n1_
        have BK211 := n2_
        have HB := n3_
        clear n0_ n1_ n2_ n3_
        refine start_ (n := 32) (S := fun w' => w'.cell? ⟨gb200, 0, none⟩ = some (.int .u8 t196) ∧ w'.cell? ⟨gb200, 1, none⟩ = some (.int .i64 t197) ∧ w'.cell? ⟨gb200, 2, none⟩ = some (.string t198) ∧ w'.cell? ⟨gb211, 0, none⟩ = some (.int .u8 t207) ∧ w'.cell? ⟨gb211, 1, none⟩ = some (.int .i64 t208) ∧ w'.cell? ⟨gb211, 2, none⟩ = some (.string t209)) (ds := []) #[false,false,false,false,false,false,false,false,false,false,false,false,false,false,false,false,false,false,false,false,false,false,false,false,false,false,false,false,false,false,false,false] (by kernel_rfl) rfl rfl ⟨(blk_cell BK200.out 0).trans rfl, (blk_cell BK200.out 1).trans rfl, (blk_cell BK200.out 2).trans rfl, (blk_cell BK211.out 0).trans rfl, (blk_cell BK211.out 1).trans rfl, (blk_cell BK211.out 2).trans rfl⟩ (fun hHeld => ?_); refine with_tabW hindsightlaw02_alive.tab5 hindsightlaw02_alive.bits5 (fun HT_ HW_ => ?_)
        generalize w40.drew = w41 at BK192 BK200 BK211 HB hHeld ⊢
        refine pure_ (i := 0) (N := some 35) (v := ?_) (a' := ?_) #[true,false,false,false,false,false,false,false,false,false,false,false,false,false,false,false,false,false,false,false,false,false,false,false,false,false,false,false,false,false,false,false] rfl rfl (any_of HT_.out (by kernel_rfl)) (fun _ _ _ h => h) (Or.inl ⟨by rfl, ?_⟩) ?_ ?_
        rotate_left
        ·intro w'
         go_simp
         with_reducible rfl
        rotate_left
        ·simp only [Act.put, List.setIfInBounds_toArray, List.set_cons_zero, List.set_cons_succ, i64_w, i32_w]
         rfl
        refine pure_ (i := 1) (N := some 36) (v := ?_) (a' := ?_) #[true,true,false,false,false,false,false,false,false,false,false,false,false,false,false,false,false,false,false,false,false,false,false,false,false,false,false,false,false,false,false,false] rfl rfl (any_of HT_.out (by kernel_rfl)) (fun _ _ _ h => h) (Or.inl ⟨by rfl, ?_⟩) ?_ ?_
        rotate_left
        ·intro w'
         go_simp
         with_reducible rfl
        rotate_left
        ·simp only [Act.put, List.setIfInBounds_toArray, List.set_cons_zero, List.set_cons_succ, i64_w, i32_w]
         rfl
        refine pure_ (i := 2) (N := some 37) (v := ?_) (a' := ?_) #[true,true,true,false,false,false,false,false,false,false,false,false,false,false,false,false,false,false,false,false,false,false,false,false,false,false,false,false,false,false,false,false] rfl rfl (any_of HT_.out (by kernel_rfl)) (fun _ _ _ h => h) (Or.inl ⟨by rfl, ?_⟩) ?_ ?_
        rotate_left
        ·intro w'
         go_simp
         with_reducible rfl
        rotate_left
        ·simp only [Act.put, List.setIfInBounds_toArray, List.set_cons_zero, List.set_cons_succ, i64_w, i32_w]
         rfl
        refine take_ (i := 3) (N := some 38) (v := ?_) (a' := ?_) #[true,true,true,true,false,false,false,false,false,false,false,false,false,false,false,false,false,false,false,false,false,false,false,false,false,false,false,false,false,false,false,false] rfl rfl (take_ofW HT_.out HW_.out (by kernel_rfl)) (fun _ _ _ h => h) (Or.inl ⟨by rfl, ?_⟩) hHeld ?_ ?_
        rotate_left
        ·rintro w' ⟨s0, s1, s2, s3, s4, s5⟩
         go_simp
         with_reducible rfl
        rotate_left
        ·simp only [Act.put, List.setIfInBounds_toArray, List.set_cons_zero, List.set_cons_succ, i64_w, i32_w]
         rfl
        refine one_ (i := 4) (N := some 39) #[true,true,true,true,true,false,false,false,false,false,false,false,false,false,false,false,false,false,false,false,false,false,false,false,false,false,false,false,false,false,false,false] rfl rfl (one_of HT_.out (by kernel_rfl)) (by decide) (fun K hK => ?_)
        refine goes_ Try.func32 (by kernel_rfl) rfl #[.int .i64 0] (by rfl) rfl rfl (by (try simp only [List.map_toArray, List.map_cons, List.map_nil]); first | done | rfl | (simp only [List.length_drop, List.length_take]; rfl)) ?_
        with_reducible refine (hindsightref02_Number.calls 0 t221 t222 t223 _ A13.out).mono ?_
        rintro e w42 ⟨rfl, hb⟩
        refine ⟨_, rfl, ?_⟩
        have n0_ := aM24 (blk_below (g := gb192) (o := .cells #[.int .u8 t188, .int .i64 t189, .string t190] 35 (0, 0)) (by (with_reducible repeat (first | refine bN24 ?_ _ | refine bD24 ?_ | refine bA24 ?_ _)); exact BK192.out) hb)
        have n1_ := aM24 (blk_below (g := gb200) (o := .cells #[.int .u8 t196, .int .i64 t197, .string t198] 35 (0, 0)) (by (with_reducible repeat (first | refine bN24 ?_ _ | refine bD24 ?_ | refine bA24 ?_ _)); exact BK200.out) hb)
        have n2_ := aM24 (blk_below (g := gb211) (o := .cells #[.int .u8 t207, .int .i64 t208, .string t209] 35 (0, 0)) (by (with_reducible repeat (first | refine bN24 ?_ _ | refine bD24 ?_ | refine bA24 ?_ _)); exact BK211.out) hb)
        have n3_ := aM24 (below_step (by repeat (first | (with_reducible first | exact HB.out | apply below_alloc | apply pw_below_drewN | apply below_drew1 | refine below_set ?_ GE192.out | refine below_set ?_ GE200.out | refine below_set ?_ GE211.out) | exact HB.out)) hb)
        clear BK192
        clear BK200
        clear BK211
        clear HB
        have BK192 := n0_
        have BK200 := n1_
        have BK211 := n2_
        have HB := n3_
        clear n0_ n1_ n2_ n3_
        (try clear hb)
        (try clear hb2)
        (try clear hk)
        (try clear hi)
        refine hK.out _ _ ⟨(blk_cell BK200.out 0).trans rfl, (blk_cell BK200.out 1).trans rfl, (blk_cell BK200.out 2).trans rfl, (blk_cell BK211.out 0).trans rfl, (blk_cell BK211.out 1).trans rfl, (blk_cell BK211.out 2).trans rfl⟩ (fun hHeld => ?_)
        clear hK K
        refine norm_ (a' := ?_) ?_ ?_
        rotate_left
        ·show Act.put _ (some 39) _ = _
         simp only [Act.put, List.setIfInBounds_toArray, List.set_cons_zero, List.set_cons_succ, i64_w, i32_w]
         rfl
        refine pure_ (i := 5) (N := some 40) (v := ?_) (a' := ?_) #[true,true,true,true,true,true,false,false,false,false,false,false,false,false,false,false,false,false,false,false,false,false,false,false,false,false,false,false,false,false,false,false] rfl rfl (any_of HT_.out (by kernel_rfl)) (fun _ _ _ h => h) (Or.inl ⟨by rfl, ?_⟩) ?_ ?_
        rotate_left
        ·intro w'
         go_simp
         with_reducible rfl
        rotate_left
        ·simp only [Act.put, List.setIfInBounds_toArray, List.set_cons_zero, List.set_cons_succ, i64_w, i32_w]
         rfl
        refine pure_ (i := 6) (N := some 41) (v := ?_) (a' := ?_) #[true,true,true,true,true,true,true,false,false,false,false,false,false,false,false,false,false,false,false,false,false,false,false,false,false,false,false,false,false,false,false,false] rfl rfl (any_of HT_.out (by kernel_rfl)) (fun _ _ _ h => h) (Or.inl ⟨by rfl, ?_⟩) ?_ ?_
        rotate_left
        ·intro w'
         go_simp
         with_reducible rfl
        rotate_left
        ·simp only [Act.put, List.setIfInBounds_toArray, List.set_cons_zero, List.set_cons_succ, i64_w, i32_w]
         rfl
        refine pure_ (i := 7) (N := some 42) (v := ?_) (a' := ?_) #[true,true,true,true,true,true,true,true,false,false,false,false,false,false,false,false,false,false,false,false,false,false,false,false,false,false,false,false,false,false,false,false] rfl rfl (any_of HT_.out (by kernel_rfl)) (fun _ _ _ h => h) (Or.inl ⟨by rfl, ?_⟩) ?_ ?_
        rotate_left
        ·intro w'
         go_simp
         with_reducible rfl
        rotate_left
        ·simp only [Act.put, List.setIfInBounds_toArray, List.set_cons_zero, List.set_cons_succ, i64_w, i32_w]
         rfl
        refine pure_ (i := 8) (N := some 43) (v := ?_) (a' := ?_) #[true,true,true,true,true,true,true,true,true,false,false,false,false,false,false,false,false,false,false,false,false,false,false,false,false,false,false,false,false,false,false,false] rfl rfl (any_of HT_.out (by kernel_rfl)) (fun _ _ _ h => h) (Or.inl ⟨by rfl, ?_⟩) ?_ ?_
        rotate_left
        ·intro w'
         go_simp
         with_reducible rfl
        rotate_left
        ·simp only [Act.put, List.setIfInBounds_toArray, List.set_cons_zero, List.set_cons_succ, i64_w, i32_w]
         rfl
        refine pure_ (i := 9) (N := some 44) (v := ?_) (a' := ?_) #[true,true,true,true,true,true,true,true,true,true,false,false,false,false,false,false,false,false,false,false,false,false,false,false,false,false,false,false,false,false,false,false] rfl rfl (any_of HT_.out (by kernel_rfl)) (fun _ _ _ h => h) (Or.inl ⟨by rfl, ?_⟩) ?_ ?_
        rotate_left
        ·intro w'
         go_simp
         with_reducible rfl
        rotate_left
        ·simp only [Act.put, List.setIfInBounds_toArray, List.set_cons_zero, List.set_cons_succ, i64_w, i32_w]
         rfl
        refine pure_ (i := 10) (N := some 45) (v := ?_) (a' := ?_) #[true,true,true,true,true,true,true,true,true,true,true,false,false,false,false,false,false,false,false,false,false,false,false,false,false,false,false,false,false,false,false,false] rfl rfl (any_of HT_.out (by kernel_rfl)) (fun _ _ _ h => h) (Or.inl ⟨by rfl, ?_⟩) ?_ ?_
        rotate_left
        ·intro w'
         go_simp
         with_reducible rfl
        rotate_left
        ·simp only [Act.put, List.setIfInBounds_toArray, List.set_cons_zero, List.set_cons_succ, i64_w, i32_w]
         rfl
        refine pure_ (i := 11) (N := some 46) (v := ?_) (a' := ?_) #[true,true,true,true,true,true,true,true,true,true,true,true,false,false,false,false,false,false,false,false,false,false,false,false,false,false,false,false,false,false,false,false] rfl rfl (any_of HT_.out (by kernel_rfl)) (fun _ _ _ h => h) (Or.inl ⟨by rfl, ?_⟩) ?_ ?_
        rotate_left
        ·intro w'
         go_simp
         with_reducible rfl
        rotate_left
        ·simp only [Act.put, List.setIfInBounds_toArray, List.set_cons_zero, List.set_cons_succ, i64_w, i32_w]
         rfl
        refine take_ (i := 12) (N := some 47) (v := ?_) (a' := ?_) #[true,true,true,true,true,true,true,true,true,true,true,true,true,false,false,false,false,false,false,false,false,false,false,false,false,false,false,false,false,false,false,false] rfl rfl (take_ofW HT_.out HW_.out (by kernel_rfl)) (fun _ _ _ h => h) (Or.inl ⟨by rfl, ?_⟩) hHeld ?_ ?_
        rotate_left
        ·rintro w' ⟨s0, s1, s2, s3, s4, s5⟩
         go_simp
         with_reducible rfl
        rotate_left
        ·simp only [Act.put, List.setIfInBounds_toArray, List.set_cons_zero, List.set_cons_succ, i64_w, i32_w]
         rfl
        refine one_ (i := 13) (N := some 48) #[true,true,true,true,true,true,true,true,true,true,true,true,true,true,false,false,false,false,false,false,false,false,false,false,false,false,false,false,false,false,false,false] rfl rfl (one_of HT_.out (by kernel_rfl)) (by decide) (fun K hK => ?_)
        refine goes_ Try.func32 (by kernel_rfl) rfl #[.int .i64 (-15)] (by rfl) rfl rfl (by (try simp only [List.map_toArray, List.map_cons, List.map_nil]); first | done | rfl | (simp only [List.length_drop, List.length_take]; rfl)) ?_
        with_reducible refine (hindsightref02_Number.calls (-15) t224 t225 t226 _ A16.out).mono ?_
        rintro e w43 ⟨rfl, hb⟩
        refine ⟨_, rfl, ?_⟩
        have n0_ := aM24 (blk_below (g := gb192) (o := .cells #[.int .u8 t188, .int .i64 t189, .string t190] 35 (0, 0)) (by (with_reducible repeat (first | refine bN24 ?_ _ | refine bD24 ?_ | refine bA24 ?_ _)); exact BK192.out) hb)
        have n1_ := aM24 (blk_below (g := gb200) (o := .cells #[.int .u8 t196, .int .i64 t197, .string t198] 35 (0, 0)) (by (with_reducible repeat (first | refine bN24 ?_ _ | refine bD24 ?_ | refine bA24 ?_ _)); exact BK200.out) hb)
        have n2_ := aM24 (blk_below (g := gb211) (o := .cells #[.int .u8 t207, .int .i64 t208, .string t209] 35 (0, 0)) (by (with_reducible repeat (first | refine bN24 ?_ _ | refine bD24 ?_ | refine bA24 ?_ _)); exact BK211.out) hb)
        have n3_ := aM24 (below_step (by repeat (first | (with_reducible first | exact HB.out | apply below_alloc | apply pw_below_drewN | apply below_drew1 | refine below_set ?_ GE192.out | refine below_set ?_ GE200.out | refine below_set ?_ GE211.out) | exact HB.out)) hb)
        clear BK192
        clear BK200
        clear BK211
        clear HB
        have BK192 := n0_
        have BK200 := n1_
        have BK211 := n2_
        have HB := n3_
        clear n0_ n1_ n2_ n3_
        (try clear hb)
        (try clear hb2)
        (try clear hk)
        (try clear hi)
        refine hK.out _ _ ⟨(blk_cell BK200.out 0).trans rfl, (blk_cell BK200.out 1).trans rfl, (blk_cell BK200.out 2).trans rfl, (blk_cell BK211.out 0).trans rfl, (blk_cell BK211.out 1).trans rfl, (blk_cell BK211.out 2).trans rfl⟩ (fun hHeld => ?_)
        clear hK K
        refine norm_ (a' := ?_) ?_ ?_
        rotate_left
        ·show Act.put _ (some 48) _ = _
         simp only [Act.put, List.setIfInBounds_toArray, List.set_cons_zero, List.set_cons_succ, i64_w, i32_w]
         rfl
        refine pure_ (i := 14) (N := some 49) (v := ?_) (a' := ?_) #[true,true,true,true,true,true,true,true,true,true,true,true,true,true,true,false,false,false,false,false,false,false,false,false,false,false,false,false,false,false,false,false] rfl rfl (any_of HT_.out (by kernel_rfl)) (fun _ _ _ h => h) (Or.inl ⟨by rfl, ?_⟩) ?_ ?_
        rotate_left
        ·intro w'
         go_simp
         with_reducible rfl
        rotate_left
        ·simp only [Act.put, List.setIfInBounds_toArray, List.set_cons_zero, List.set_cons_succ, i64_w, i32_w]
         rfl
        refine pure_ (i := 15) (N := some 50) (v := ?_) (a' := ?_) #[true,true,true,true,true,true,true,true,true,true,true,true,true,true,true,true,false,false,false,false,false,false,false,false,false,false,false,false,false,false,false,false] rfl rfl (any_of HT_.out (by kernel_rfl)) (fun _ _ _ h => h) (Or.inl ⟨by rfl, ?_⟩) ?_ ?_
        rotate_left
        ·intro w'
         go_simp
         with_reducible rfl
        rotate_left
        ·simp only [Act.put, List.setIfInBounds_toArray, List.set_cons_zero, List.set_cons_succ, i64_w, i32_w]
         rfl
        refine pure_ (i := 16) (N := some 51) (v := ?_) (a' := ?_) #[true,true,true,true,true,true,true,true,true,true,true,true,true,true,true,true,true,false,false,false,false,false,false,false,false,false,false,false,false,false,false,false] rfl rfl (any_of HT_.out (by kernel_rfl)) (fun _ _ _ h => h) (Or.inl ⟨by rfl, ?_⟩) ?_ ?_
        rotate_left
        ·intro w'
         go_simp
         with_reducible rfl
        rotate_left
        ·simp only [Act.put, List.setIfInBounds_toArray, List.set_cons_zero, List.set_cons_succ, i64_w, i32_w]
         rfl
        refine pure_ (i := 17) (N := some 52) (v := ?_) (a' := ?_) #[true,true,true,true,true,true,true,true,true,true,true,true,true,true,true,true,true,true,false,false,false,false,false,false,false,false,false,false,false,false,false,false] rfl rfl (any_of HT_.out (by kernel_rfl)) (fun _ _ _ h => h) (Or.inl ⟨by rfl, ?_⟩) ?_ ?_
        rotate_left
        ·intro w'
         go_simp
         with_reducible rfl
        rotate_left
        ·simp only [Act.put, List.setIfInBounds_toArray, List.set_cons_zero, List.set_cons_succ, i64_w, i32_w]
         rfl
        refine pure_ (i := 18) (N := some 53) (v := ?_) (a' := ?_) #[true,true,true,true,true,true,true,true,true,true,true,true,true,true,true,true,true,true,true,false,false,false,false,false,false,false,false,false,false,false,false,false] rfl rfl (any_of HT_.out (by kernel_rfl)) (fun _ _ _ h => h) (Or.inl ⟨by rfl, ?_⟩) ?_ ?_
        rotate_left
        ·intro w'
         go_simp
         with_reducible rfl
        rotate_left
        ·simp only [Act.put, List.setIfInBounds_toArray, List.set_cons_zero, List.set_cons_succ, i64_w, i32_w]
         rfl
        refine pure_ (i := 19) (N := some 54) (v := ?_) (a' := ?_) #[true,true,true,true,true,true,true,true,true,true,true,true,true,true,true,true,true,true,true,true,false,false,false,false,false,false,false,false,false,false,false,false] rfl rfl (any_of HT_.out (by kernel_rfl)) (fun _ _ _ h => h) (Or.inl ⟨by rfl, ?_⟩) ?_ ?_
        rotate_left
        ·intro w'
         go_simp
         with_reducible rfl
        rotate_left
        ·simp only [Act.put, List.setIfInBounds_toArray, List.set_cons_zero, List.set_cons_succ, i64_w, i32_w]
         rfl
        refine pure_ (i := 20) (N := some 55) (v := ?_) (a' := ?_) #[true,true,true,true,true,true,true,true,true,true,true,true,true,true,true,true,true,true,true,true,true,false,false,false,false,false,false,false,false,false,false,false] rfl rfl (any_of HT_.out (by kernel_rfl)) (fun _ _ _ h => h) (Or.inl ⟨by rfl, ?_⟩) ?_ ?_
        rotate_left
        ·intro w'
         go_simp
         with_reducible rfl
        rotate_left
        ·simp only [Act.put, List.setIfInBounds_toArray, List.set_cons_zero, List.set_cons_succ, i64_w, i32_w]
         rfl
        refine pure_ (i := 21) (N := some 56) (v := ?_) (a' := ?_) #[true,true,true,true,true,true,true,true,true,true,true,true,true,true,true,true,true,true,true,true,true,true,false,false,false,false,false,false,false,false,false,false] rfl rfl (any_of HT_.out (by kernel_rfl)) (fun _ _ _ h => h) (Or.inl ⟨by rfl, ?_⟩) ?_ ?_
        rotate_left
        ·intro w'
         go_simp
         with_reducible rfl
        rotate_left
        ·simp only [Act.put, List.setIfInBounds_toArray, List.set_cons_zero, List.set_cons_succ, i64_w, i32_w]
         rfl
        refine pure_ (i := 22) (N := some 57) (v := ?_) (a' := ?_) #[true,true,true,true,true,true,true,true,true,true,true,true,true,true,true,true,true,true,true,true,true,true,true,false,false,false,false,false,false,false,false,false] rfl rfl (any_of HT_.out (by kernel_rfl)) (fun _ _ _ h => h) (Or.inl ⟨by rfl, ?_⟩) ?_ ?_
        rotate_left
        ·intro w'
         go_simp
         with_reducible rfl
        rotate_left
        ·simp only [Act.put, List.setIfInBounds_toArray, List.set_cons_zero, List.set_cons_succ, i64_w, i32_w]
         rfl
        refine pure_ (i := 23) (N := some 58) (v := ?_) (a' := ?_) #[true,true,true,true,true,true,true,true,true,true,true,true,true,true,true,true,true,true,true,true,true,true,true,true,false,false,false,false,false,false,false,false] rfl rfl (any_of HT_.out (by kernel_rfl)) (fun _ _ _ h => h) (Or.inl ⟨by rfl, ?_⟩) ?_ ?_
        rotate_left
        ·intro w'
         go_simp
         with_reducible rfl
        rotate_left
        ·simp only [Act.put, List.setIfInBounds_toArray, List.set_cons_zero, List.set_cons_succ, i64_w, i32_w]
         rfl
        refine pure_ (i := 24) (N := some 59) (v := ?_) (a' := ?_) #[true,true,true,true,true,true,true,true,true,true,true,true,true,true,true,true,true,true,true,true,true,true,true,true,true,false,false,false,false,false,false,false] rfl rfl (any_of HT_.out (by kernel_rfl)) (fun _ _ _ h => h) (Or.inl ⟨by rfl, ?_⟩) ?_ ?_
        rotate_left
        ·intro w'
         go_simp
         with_reducible rfl
        rotate_left
        ·simp only [Act.put, List.setIfInBounds_toArray, List.set_cons_zero, List.set_cons_succ, i64_w, i32_w]
         rfl
        refine pure_ (i := 25) (N := some 60) (v := ?_) (a' := ?_) #[true,true,true,true,true,true,true,true,true,true,true,true,true,true,true,true,true,true,true,true,true,true,true,true,true,true,false,false,false,false,false,false] rfl rfl (any_of HT_.out (by kernel_rfl)) (fun _ _ _ h => h) (Or.inl ⟨by rfl, ?_⟩) ?_ ?_
        rotate_left
        ·intro w'
         go_simp
         with_reducible rfl
        rotate_left
        ·simp only [Act.put, List.setIfInBounds_toArray, List.set_cons_zero, List.set_cons_succ, i64_w, i32_w]
         rfl
        refine pure_ (i := 26) (N := some 61) (v := ?_) (a' := ?_) #[true,true,true,true,true,true,true,true,true,true,true,true,true,true,true,true,true,true,true,true,true,true,true,true,true,true,true,false,false,false,false,false] rfl rfl (any_of HT_.out (by kernel_rfl)) (fun _ _ _ h => h) (Or.inl ⟨by rfl, ?_⟩) ?_ ?_
        rotate_left
        ·intro w'
         go_simp
         with_reducible rfl
        rotate_left
        ·simp only [Act.put, List.setIfInBounds_toArray, List.set_cons_zero, List.set_cons_succ, i64_w, i32_w]
         rfl
        refine pure_ (i := 27) (N := some 62) (v := ?_) (a' := ?_) #[true,true,true,true,true,true,true,true,true,true,true,true,true,true,true,true,true,true,true,true,true,true,true,true,true,true,true,true,false,false,false,false] rfl rfl (any_of HT_.out (by kernel_rfl)) (fun _ _ _ h => h) (Or.inl ⟨by rfl, ?_⟩) ?_ ?_
        rotate_left
        ·intro w'
         go_simp
         with_reducible rfl
        rotate_left
        ·simp only [Act.put, List.setIfInBounds_toArray, List.set_cons_zero, List.set_cons_succ, i64_w, i32_w]
         rfl
        refine pure_ (i := 28) (N := some 63) (v := ?_) (a' := ?_) #[true,true,true,true,true,true,true,true,true,true,true,true,true,true,true,true,true,true,true,true,true,true,true,true,true,true,true,true,true,false,false,false] rfl rfl (any_of HT_.out (by kernel_rfl)) (fun _ _ _ h => h) (Or.inl ⟨by rfl, ?_⟩) ?_ ?_
        rotate_left
        ·intro w'
         go_simp
         with_reducible rfl
        rotate_left
        ·simp only [Act.put, List.setIfInBounds_toArray, List.set_cons_zero, List.set_cons_succ, i64_w, i32_w]
         rfl
        refine pure_ (i := 29) (N := some 64) (v := ?_) (a' := ?_) #[true,true,true,true,true,true,true,true,true,true,true,true,true,true,true,true,true,true,true,true,true,true,true,true,true,true,true,true,true,true,false,false] rfl rfl (any_of HT_.out (by kernel_rfl)) (fun _ _ _ h => h) (Or.inl ⟨by rfl, ?_⟩) ?_ ?_
        rotate_left
        ·intro w'
         go_simp
         with_reducible rfl
        rotate_left
        ·simp only [Act.put, List.setIfInBounds_toArray, List.set_cons_zero, List.set_cons_succ, i64_w, i32_w]
         rfl
        refine pure_ (i := 30) (N := some 65) (v := ?_) (a' := ?_) #[true,true,true,true,true,true,true,true,true,true,true,true,true,true,true,true,true,true,true,true,true,true,true,true,true,true,true,true,true,true,true,false] rfl rfl (any_of HT_.out (by kernel_rfl)) (fun _ _ _ h => h) (Or.inl ⟨by rfl, ?_⟩) ?_ ?_
        rotate_left
        ·intro w'
         go_simp
         with_reducible rfl
        rotate_left
        ·simp only [Act.put, List.setIfInBounds_toArray, List.set_cons_zero, List.set_cons_succ, i64_w, i32_w]
         rfl
        refine pure_ (i := 31) (N := some 0) (v := ?_) (a' := ?_) #[true,true,true,true,true,true,true,true,true,true,true,true,true,true,true,true,true,true,true,true,true,true,true,true,true,true,true,true,true,true,true,true] rfl rfl (any_of HT_.out (by kernel_rfl)) (fun _ _ _ h => h) (Or.inl ⟨by rfl, ?_⟩) ?_ ?_
        rotate_left
        ·intro w'
         go_simp
         with_reducible rfl
        rotate_left
        ·simp only [Act.put, List.setIfInBounds_toArray, List.set_cons_zero, List.set_cons_succ, i64_w, i32_w]
         rfl
        refine done_ (done_of HT_.out (by kernel_rfl)) ?_
        try go_wp2
        (try (all_goals (try (exact absurd (c14b3.symm.trans (show (!(t196 == t221 && (t197 == t222 && (t198.toList == t223.toList)))) = true by assumption)) (by decide)))))
        (try (all_goals (try (exact absurd (c17b3.symm.trans (show (!(t207 == t224 && (t208 == t225 && (t209.toList == t226.toList)))) = true by assumption)) (by decide)))))
        go_ret
        exact ⟨by first | rfl | (simp [errW_none, errW_some] <;> rfl) | (simp [*, errW_none, errW_some] <;> rfl), by repeat (first | (with_reducible first | exact HB.out | apply below_alloc | apply pw_below_drewN | apply below_drew1 | refine below_set ?_ GE192.out | refine below_set ?_ GE200.out | refine below_set ?_ GE211.out) | exact HB.out)⟩
       ·replace c20 := Bool.eq_false_iff.mpr c20
        subst c20
        have H1 : (none) = some r := by rw [if_neg (show ¬ (false = true) by decide)] at H; exact H
        clear H
        have H := H1
        clear H1
        exact absurd H (by simp)
      ·rw [if_neg c19] at H
       have c19b0 : (t218 == (-1)) = false := beq_eq_false_iff_ne.mpr c19
       have c19b1 : (t218 != (-1)) = true := bne_iff_ne.mpr c19
       exact absurd H (by simp)
     ·rw [if_neg c18] at H
      have c18b0 : (t210 == 0) = false := beq_eq_false_iff_ne.mpr c18
      have c18b1 : (t210 != 0) = true := bne_iff_ne.mpr c18
      exact absurd H (by simp)
    ·rw [if_neg c17] at H
     have c17b0 : (t207 == t224 && (t208 == t225 && (t209.toList == t226.toList))) = false := by simpa using c17
     (try (have c17b1 : decide (t207 = t224 && (t208 == t225 && (t209.toList == t226.toList))) = false := by simpa using c17))
     (try (have c17b2 : (t207 == t224 && (t208 == t225 && (t209.toList == t226.toList))) = false := by simpa using c17))
     (try (have c17b3 : (!(t207 == t224 && (t208 == t225 && (t209.toList == t226.toList)))) = true := by first | exact c17 | simpa using c17))
     (try (have c17b4 : ¬ (t207 = t224 && (t208 == t225 && (t209.toList == t226.toList))) := by simpa using c17))
     clear c17
     exact absurd H (by simp)
   ·rw [if_neg c15] at H
    have c15b0 : (t199 == 0) = false := beq_eq_false_iff_ne.mpr c15
    have c15b1 : (t199 != 0) = true := bne_iff_ne.mpr c15
    exact absurd H (by simp)
  ·rw [if_neg c14] at H
   have c14b0 : (t196 == t221 && (t197 == t222 && (t198.toList == t223.toList))) = false := by simpa using c14
   (try (have c14b1 : decide (t196 = t221 && (t197 == t222 && (t198.toList == t223.toList))) = false := by simpa using c14))
   (try (have c14b2 : (t196 == t221 && (t197 == t222 && (t198.toList == t223.toList))) = false := by simpa using c14))
   (try (have c14b3 : (!(t196 == t221 && (t197 == t222 && (t198.toList == t223.toList)))) = true := by first | exact c14 | simpa using c14))
   (try (have c14b4 : ¬ (t196 = t221 && (t197 == t222 && (t198.toList == t223.toList))) := by simpa using c14))
   clear c14
   exact absurd H (by simp)
 ·rw [if_neg c12] at H
  have c12b0 : (t191 == 21) = false := beq_eq_false_iff_ne.mpr c12
  have c12b1 : (t191 != 21) = true := bne_iff_ne.mpr c12
  exact absurd H (by simp)

end Go.Proofs.Ytefpnnljflcmbaa.PCe
