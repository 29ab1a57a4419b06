/- The law CellGo, over all values. -/
import Derived.Test.YtefpnnljflcmbaaGo1
import Derived.Test.YtefpnnljflcmbaaCAlive
import Derived.Test.YtefpnnljflcmbaaCRefs
namespace Go.Proofs.Ytefpnnljflcmbaa.Go2
open Go.RowKit Go.Proofs.Ytefpnnljflcmbaa.PCe Go.Proofs.Ytefpnnljflcmbaa.CMath Go.Proofs.Ytefpnnljflcmbaa.CFuns Go.Proofs.Ytefpnnljflcmbaa.CRefs Go.Proofs.Ytefpnnljflcmbaa.CAlive Go.Proofs.YtefpnnljflcmbaaW.PrintWords
theorem go_all (k i : Int) (s : ByteArray) (n : Int) (w : World) :
    Calls Try.prog 9 #[.agg #[.int .u8 k, .int .i64 i, .string s], .int .i64 n] w fun e w' => e = .returned (.bool true) ∧ Below w.heap.size w w' := by
  have hal := alive_tells 5 (Nat.le_refl _)
  have hg := great_tells k i s k i s
  have hr := right_tells k i s
  have href := rright_tells k i s
  by_cases hs : s.size > 1000 ∨ s.size > 1000
  · rw [decide_eq_true hs] at hg
    exact go_great k i s n 5 w hal hg
  rw [decide_eq_false hs] at hg
  cases h : rgt k i s
  · rw [h] at hr href
    exact go_bad k i s n 5 w hal hg hr href
  rw [h] at hr href
  unfold rgt at h
  simp only [decide_eq_true_eq] at h
  rcases h with ⟨rfl, rfl, hz⟩ | ⟨rfl, hz⟩ | ⟨rfl | rfl, rfl⟩
  · obtain rfl := size0 s hz
    exact go_null n 5 w hal hg hr href
  · obtain rfl := size0 s hz
    exact go_int i n 5 w hal hg hr href
  · exact go_text s n 5 w hal hg hr href
  · exact go_blob s n 5 w hal hg hr href
end Go.Proofs.Ytefpnnljflcmbaa.Go2
