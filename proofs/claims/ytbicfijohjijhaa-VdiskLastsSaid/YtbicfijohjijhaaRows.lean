/-
  No cell of these rows narrows 'for every input' (looked for: loops, veiled, ifaces, maps, wideKeys, modest, calm, conditions, laid).
  DERIVED. THE GIVEN ROWS OF THIS SEAT. 8 by the template 'for every input the law returns true; each argument reads behind the call as it read before'; 0 by the template 'total and deterministic' (their statements: YtbicfijohjijhaaTotals.lean).
  GIVEN WITH THE SEED: the statements are not yours to turn. If you find one false, say at which input.
  Laid BY PROGRAM, IN A SANDBOX (cutbox-rows.mjs): the forced cells as the released guide's own fill.sh prints them over the translation 9560c4097bbaa4cb… (all of the seat's roots in one cut). By AI agents, Wed Nov 11 2026. No macro, syntax, notation, axiom, sorry.
-/
import Derived.Test.YtbicfijohjijhaaChecked
import GoSem.Claim
import GoSem.ClaimJoined
import GoSem.ClaimMapViews
import Derived.JoinedTies
import Derived.KernelRfl
namespace Go.Proofs.Ytbicfijohjijhaa
/- THE CELL 'sum', in the pinned program and in every row, IS THE sha256 OF THE DUMP (.gsa) THAT YtbicfijohjijhaaProg.lean LOADS. Nothing in Lean hashes anything: it is a label: what it is worth is what the hold of that sum in a sandbox is worth. -/
noncomputable def Try.pinned : Pinned := { name := "ytbicfijohjijhaa", sum := "9560c4097bbaa4cb07c6b025d793eced55b844301e0171b318267c796b2463ce", checked := Try.checked }
namespace Rows
def none {H : Type} : Left H := { results := [], args := [] }

/-- 'hindsightlaw01.VarintSizes': WHATEVER THE INPUT: true; the input reads as it did. -/
def varintSizesSpec : ChangeSpec := { name := "varintSizes", fn := fun _ => fun
  | [d1, d2, d3] => { results := [.lit (.bool true)], args := [d1, d2, d3] }
  | _ => none }
def varintSizesRow : OpenClaim := { program := "ytbicfijohjijhaa", sum := "9560c4097bbaa4cb07c6b025d793eced55b844301e0171b318267c796b2463ce", func := "hindsight/hindsightlaw01.VarintSizes", spec := "varintSizes", plainKeys := false, apart := false }
def VarintSizesSaid : Prop := varintSizesRow.holds Try.pinned (OpenSpec.ofChange varintSizesSpec)

/-- ITS FALSE NEIGHBOUR: 'it returns false'. Refute it at one input. -/
def varintSizesWrong : ChangeSpec := { name := "varintSizes", fn := fun _ => fun
  | [d1, d2, d3] => { results := [.lit (.bool false)], args := [d1, d2, d3] }
  | _ => none }
def VarintSizesWrongFalsely : Prop := varintSizesRow.holds Try.pinned (OpenSpec.ofChange varintSizesWrong)

/-- 'hindsightlaw01.VarintInts': WHATEVER THE INPUT: true; the input reads as it did. -/
def varintIntsSpec : ChangeSpec := { name := "varintInts", fn := fun _ => fun
  | [d1, d2, d3, d4] => { results := [.lit (.bool true)], args := [d1, d2, d3, d4] }
  | _ => none }
def varintIntsRow : OpenClaim := { program := "ytbicfijohjijhaa", sum := "9560c4097bbaa4cb07c6b025d793eced55b844301e0171b318267c796b2463ce", func := "hindsight/hindsightlaw01.VarintInts", spec := "varintInts", plainKeys := false, apart := false }
def VarintIntsSaid : Prop := varintIntsRow.holds Try.pinned (OpenSpec.ofChange varintIntsSpec)

/-- ITS FALSE NEIGHBOUR: 'it returns false'. Refute it at one input. -/
def varintIntsWrong : ChangeSpec := { name := "varintInts", fn := fun _ => fun
  | [d1, d2, d3, d4] => { results := [.lit (.bool false)], args := [d1, d2, d3, d4] }
  | _ => none }
def VarintIntsWrongFalsely : Prop := varintIntsRow.holds Try.pinned (OpenSpec.ofChange varintIntsWrong)

/-- 'hindsightlaw01.VarintTexts': WHATEVER THE INPUT: true; the input reads as it did. -/
def varintTextsSpec : ChangeSpec := { name := "varintTexts", fn := fun _ => fun
  | [d1, d2, d3] => { results := [.lit (.bool true)], args := [d1, d2, d3] }
  | _ => none }
def varintTextsRow : OpenClaim := { program := "ytbicfijohjijhaa", sum := "9560c4097bbaa4cb07c6b025d793eced55b844301e0171b318267c796b2463ce", func := "hindsight/hindsightlaw01.VarintTexts", spec := "varintTexts", plainKeys := false, apart := false }
def VarintTextsSaid : Prop := varintTextsRow.holds Try.pinned (OpenSpec.ofChange varintTextsSpec)

/-- ITS FALSE NEIGHBOUR: 'it returns false'. Refute it at one input. -/
def varintTextsWrong : ChangeSpec := { name := "varintTexts", fn := fun _ => fun
  | [d1, d2, d3] => { results := [.lit (.bool false)], args := [d1, d2, d3] }
  | _ => none }
def VarintTextsWrongFalsely : Prop := varintTextsRow.holds Try.pinned (OpenSpec.ofChange varintTextsWrong)

/-- 'hindsightlaw01.VarintBack': WHATEVER THE INPUT: true; the input reads as it did. -/
def varintBackSpec : ChangeSpec := { name := "varintBack", fn := fun _ => fun
  | [d1, d2, d3, d4, d5] => { results := [.lit (.bool true)], args := [d1, d2, d3, d4, d5] }
  | _ => none }
def varintBackRow : OpenClaim := { program := "ytbicfijohjijhaa", sum := "9560c4097bbaa4cb07c6b025d793eced55b844301e0171b318267c796b2463ce", func := "hindsight/hindsightlaw01.VarintBack", spec := "varintBack", plainKeys := false, apart := false }
def VarintBackSaid : Prop := varintBackRow.holds Try.pinned (OpenSpec.ofChange varintBackSpec)

/-- ITS FALSE NEIGHBOUR: 'it returns false'. Refute it at one input. -/
def varintBackWrong : ChangeSpec := { name := "varintBack", fn := fun _ => fun
  | [d1, d2, d3, d4, d5] => { results := [.lit (.bool false)], args := [d1, d2, d3, d4, d5] }
  | _ => none }
def VarintBackWrongFalsely : Prop := varintBackRow.holds Try.pinned (OpenSpec.ofChange varintBackWrong)

/-- 'hindsightlaw07.VdiskShows': WHATEVER THE INPUT: true; the input reads as it did. -/
def vdiskShowsSpec : ChangeSpec := { name := "vdiskShows", fn := fun _ => fun
  | [d] => { results := [.lit (.bool true)], args := [d] }
  | _ => none }
def vdiskShowsRow : OpenClaim := { program := "ytbicfijohjijhaa", sum := "9560c4097bbaa4cb07c6b025d793eced55b844301e0171b318267c796b2463ce", func := "hindsight/hindsightlaw07.VdiskShows", spec := "vdiskShows", plainKeys := false, apart := false }
def VdiskShowsSaid : Prop := vdiskShowsRow.holds Try.pinned (OpenSpec.ofChange vdiskShowsSpec)

/-- ITS FALSE NEIGHBOUR: 'it returns false'. Refute it at one input. -/
def vdiskShowsWrong : ChangeSpec := { name := "vdiskShows", fn := fun _ => fun
  | [d] => { results := [.lit (.bool false)], args := [d] }
  | _ => none }
def VdiskShowsWrongFalsely : Prop := vdiskShowsRow.holds Try.pinned (OpenSpec.ofChange vdiskShowsWrong)

/-- 'hindsightlaw07.VdiskLasts': WHATEVER THE INPUT: true; the input reads as it did. -/
def vdiskLastsSpec : ChangeSpec := { name := "vdiskLasts", fn := fun _ => fun
  | [d1, d2] => { results := [.lit (.bool true)], args := [d1, d2] }
  | _ => none }
def vdiskLastsRow : OpenClaim := { program := "ytbicfijohjijhaa", sum := "9560c4097bbaa4cb07c6b025d793eced55b844301e0171b318267c796b2463ce", func := "hindsight/hindsightlaw07.VdiskLasts", spec := "vdiskLasts", plainKeys := false, apart := false }
def VdiskLastsSaid : Prop := vdiskLastsRow.holds Try.pinned (OpenSpec.ofChange vdiskLastsSpec)

/-- ITS FALSE NEIGHBOUR: 'it returns false'. Refute it at one input. -/
def vdiskLastsWrong : ChangeSpec := { name := "vdiskLasts", fn := fun _ => fun
  | [d1, d2] => { results := [.lit (.bool false)], args := [d1, d2] }
  | _ => none }
def VdiskLastsWrongFalsely : Prop := vdiskLastsRow.holds Try.pinned (OpenSpec.ofChange vdiskLastsWrong)

/-- 'hindsightlaw07.VdiskLives': WHATEVER THE INPUT: true; the input reads as it did. -/
def vdiskLivesSpec : ChangeSpec := { name := "vdiskLives", fn := fun _ => fun
  | [d1, d2] => { results := [.lit (.bool true)], args := [d1, d2] }
  | _ => none }
def vdiskLivesRow : OpenClaim := { program := "ytbicfijohjijhaa", sum := "9560c4097bbaa4cb07c6b025d793eced55b844301e0171b318267c796b2463ce", func := "hindsight/hindsightlaw07.VdiskLives", spec := "vdiskLives", plainKeys := false, apart := false }
def VdiskLivesSaid : Prop := vdiskLivesRow.holds Try.pinned (OpenSpec.ofChange vdiskLivesSpec)

/-- ITS FALSE NEIGHBOUR: 'it returns false'. Refute it at one input. -/
def vdiskLivesWrong : ChangeSpec := { name := "vdiskLives", fn := fun _ => fun
  | [d1, d2] => { results := [.lit (.bool false)], args := [d1, d2] }
  | _ => none }
def VdiskLivesWrongFalsely : Prop := vdiskLivesRow.holds Try.pinned (OpenSpec.ofChange vdiskLivesWrong)

/-- 'hindsightlaw07.VdiskNobody': WHATEVER THE INPUT: true; the input reads as it did. -/
def vdiskNobodySpec : ChangeSpec := { name := "vdiskNobody", fn := fun _ => fun
  | [d] => { results := [.lit (.bool true)], args := [d] }
  | _ => none }
def vdiskNobodyRow : OpenClaim := { program := "ytbicfijohjijhaa", sum := "9560c4097bbaa4cb07c6b025d793eced55b844301e0171b318267c796b2463ce", func := "hindsight/hindsightlaw07.VdiskNobody", spec := "vdiskNobody", plainKeys := false, apart := false }
def VdiskNobodySaid : Prop := vdiskNobodyRow.holds Try.pinned (OpenSpec.ofChange vdiskNobodySpec)

/-- ITS FALSE NEIGHBOUR: 'it returns false'. Refute it at one input. -/
def vdiskNobodyWrong : ChangeSpec := { name := "vdiskNobody", fn := fun _ => fun
  | [d] => { results := [.lit (.bool false)], args := [d] }
  | _ => none }
def VdiskNobodyWrongFalsely : Prop := vdiskNobodyRow.holds Try.pinned (OpenSpec.ofChange vdiskNobodyWrong)

/- THE SECOND FORM. 'bulk': how many values and letters a reading holds, each counted each time it is reached (what is shared counts as often as it is met; a slice's spare places count too). A statement '..UptoSaid' is the law's where the arguments, and the package variables that the reading takes, are together of bulk at most 1048576: NARROWER than '..Said'. Prove '..Said' where nothing that the law and all that it calls make is longer than what came in: it says more and counts as full. Else prove '..UptoSaid'. A law counts once. -/
mutual
def uptoBulk {H : Type} : DataW H → Nat
  | .lit (.string bytes) => bytes.length + 1
  | .lit _ => 1
  | .nil => 1
  | .ptr d => uptoBulk d + 1
  | .slice elems spare => uptoBulkAll elems + uptoBulkAll spare + 1
  | .agg parts => uptoBulkAll parts + 1
  | .iface _ d => uptoBulk d + 1
  | .map entries => uptoBulkEntries entries + 1
  | .held _ => 1
def uptoBulkAll {H : Type} : List (DataW H) → Nat
  | [] => 0
  | d :: r => uptoBulk d + uptoBulkAll r
def uptoBulkEntries {H : Type} : List (Lit × DataW H) → Nat
  | [] => 0
  | x :: r => uptoBulkEntry x + uptoBulkEntries r
def uptoBulkEntry {H : Type} : Lit × DataW H → Nat
  | (.string bytes, d) => bytes.length + uptoBulk d + 1
  | (_, d) => uptoBulk d + 1
 end
def uptoSmall : (H : Type) → List (DataW H) → Bool := fun _ ds => decide (uptoBulkAll ds ≤ 1048576)
def OpenSpec.upto (s : _root_.Go.ChangeSpec) : _root_.Go.OpenSpec := { _root_.Go.OpenSpec.ofChange s with cond := some uptoSmall }

/-- 'hindsightlaw01.VarintSizes', WHERE WHAT IT READS IS OF BULK AT MOST 1048576: true; the input reads as it did. -/
def varintSizesUptoRow : OpenClaim := { program := "ytbicfijohjijhaa", sum := "9560c4097bbaa4cb07c6b025d793eced55b844301e0171b318267c796b2463ce", func := "hindsight/hindsightlaw01.VarintSizes", spec := "varintSizes", plainKeys := false, apart := false, narrowed := true }
def VarintSizesUptoSaid : Prop := varintSizesUptoRow.holds Try.pinned (OpenSpec.upto varintSizesSpec)

/-- 'hindsightlaw01.VarintInts', WHERE WHAT IT READS IS OF BULK AT MOST 1048576: true; the input reads as it did. -/
def varintIntsUptoRow : OpenClaim := { program := "ytbicfijohjijhaa", sum := "9560c4097bbaa4cb07c6b025d793eced55b844301e0171b318267c796b2463ce", func := "hindsight/hindsightlaw01.VarintInts", spec := "varintInts", plainKeys := false, apart := false, narrowed := true }
def VarintIntsUptoSaid : Prop := varintIntsUptoRow.holds Try.pinned (OpenSpec.upto varintIntsSpec)

/-- 'hindsightlaw01.VarintTexts', WHERE WHAT IT READS IS OF BULK AT MOST 1048576: true; the input reads as it did. -/
def varintTextsUptoRow : OpenClaim := { program := "ytbicfijohjijhaa", sum := "9560c4097bbaa4cb07c6b025d793eced55b844301e0171b318267c796b2463ce", func := "hindsight/hindsightlaw01.VarintTexts", spec := "varintTexts", plainKeys := false, apart := false, narrowed := true }
def VarintTextsUptoSaid : Prop := varintTextsUptoRow.holds Try.pinned (OpenSpec.upto varintTextsSpec)

/-- 'hindsightlaw01.VarintBack', WHERE WHAT IT READS IS OF BULK AT MOST 1048576: true; the input reads as it did. -/
def varintBackUptoRow : OpenClaim := { program := "ytbicfijohjijhaa", sum := "9560c4097bbaa4cb07c6b025d793eced55b844301e0171b318267c796b2463ce", func := "hindsight/hindsightlaw01.VarintBack", spec := "varintBack", plainKeys := false, apart := false, narrowed := true }
def VarintBackUptoSaid : Prop := varintBackUptoRow.holds Try.pinned (OpenSpec.upto varintBackSpec)

/-- 'hindsightlaw07.VdiskShows', WHERE WHAT IT READS IS OF BULK AT MOST 1048576: true; the input reads as it did. -/
def vdiskShowsUptoRow : OpenClaim := { program := "ytbicfijohjijhaa", sum := "9560c4097bbaa4cb07c6b025d793eced55b844301e0171b318267c796b2463ce", func := "hindsight/hindsightlaw07.VdiskShows", spec := "vdiskShows", plainKeys := false, apart := false, narrowed := true }
def VdiskShowsUptoSaid : Prop := vdiskShowsUptoRow.holds Try.pinned (OpenSpec.upto vdiskShowsSpec)

/-- 'hindsightlaw07.VdiskLasts', WHERE WHAT IT READS IS OF BULK AT MOST 1048576: true; the input reads as it did. -/
def vdiskLastsUptoRow : OpenClaim := { program := "ytbicfijohjijhaa", sum := "9560c4097bbaa4cb07c6b025d793eced55b844301e0171b318267c796b2463ce", func := "hindsight/hindsightlaw07.VdiskLasts", spec := "vdiskLasts", plainKeys := false, apart := false, narrowed := true }
def VdiskLastsUptoSaid : Prop := vdiskLastsUptoRow.holds Try.pinned (OpenSpec.upto vdiskLastsSpec)

/-- 'hindsightlaw07.VdiskLives', WHERE WHAT IT READS IS OF BULK AT MOST 1048576: true; the input reads as it did. -/
def vdiskLivesUptoRow : OpenClaim := { program := "ytbicfijohjijhaa", sum := "9560c4097bbaa4cb07c6b025d793eced55b844301e0171b318267c796b2463ce", func := "hindsight/hindsightlaw07.VdiskLives", spec := "vdiskLives", plainKeys := false, apart := false, narrowed := true }
def VdiskLivesUptoSaid : Prop := vdiskLivesUptoRow.holds Try.pinned (OpenSpec.upto vdiskLivesSpec)

/-- 'hindsightlaw07.VdiskNobody', WHERE WHAT IT READS IS OF BULK AT MOST 1048576: true; the input reads as it did. -/
def vdiskNobodyUptoRow : OpenClaim := { program := "ytbicfijohjijhaa", sum := "9560c4097bbaa4cb07c6b025d793eced55b844301e0171b318267c796b2463ce", func := "hindsight/hindsightlaw07.VdiskNobody", spec := "vdiskNobody", plainKeys := false, apart := false, narrowed := true }
def VdiskNobodyUptoSaid : Prop := vdiskNobodyUptoRow.holds Try.pinned (OpenSpec.upto vdiskNobodySpec)

end Rows
end Go.Proofs.Ytbicfijohjijhaa
