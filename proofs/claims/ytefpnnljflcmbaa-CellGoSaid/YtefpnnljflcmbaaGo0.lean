/- cell.To, cell.From, cell.Number, cell.MustNumber, walked by hand: values of type any. -/
import Derived.Test.YtefpnnljflcmbaaPCex2
import Derived.Test.YtefpnnljflcmbaaPCex14
import Derived.Test.YtefpnnljflcmbaaPCex2
import Derived.Test.YtefpnnljflcmbaaPCex15
import Derived.Laws.IdiomStrings
import Derived.Laws.Panics
import Derived.Shelf.Bytes.SlEqualAll
namespace Go.Proofs.Ytefpnnljflcmbaa.PCe
open Go.RowKit Go.Proofs.YtefpnnljflcmbaaW.PrintWords Go.Proofs.YtefpnnljflcmbaaW.PrintLast Go.Proofs.YtefpnnljflcmbaaW.PrintMore
set_option linter.unusedVariables false
set_option linter.unusedSimpArgs false

set_option maxHeartbeats 8000000 in
set_option maxRecDepth 100000 in
theorem to_bad (k i : Int) (s : ByteArray) (w : World) (hr : cell_Right.f k i s = some false) :
  Calls Try.prog 43 #[.agg #[.int .u8 k, .int .i64 i, .string s]] w fun e w' => e = .returned (.tuple #[.nilIface, .int .i64 3]) ∧ Below w.heap.size w w' := by
 have hu35 := Try.underlying35
 have HB := Aside0.mk (Below.refl w.heap.size w)
 go_enter Try.func43, Try.ntmps43
 go_wp2_with (first | ((with_reducible refine gate_dst (N := 1) rfl ?_); refine box_event ?hg (N := 1) ?hd (cs := #[.int .u8 k, .int .i64 i, .string s]) (t := 35) ?hr ?_; (case hd => rfl); (case hg => rfl); (case hr => first | (go_simp; done) | (go_simp; rfl)); intro gb hg w3 hbox hb; have HB := Aside0.mk (below_step HB.out hb); clear hb hg; have BX := Aside0.mk hbox; clear hbox; have c3_0 : w3.cell? ⟨gb, 0, none⟩ = some (.int .u8 k) := (blk_cell BX.out 0).trans rfl; have c3_1 : w3.cell? ⟨gb, 1, none⟩ = some (.int .i64 i) := (blk_cell BX.out 1).trans rfl; have c3_2 : w3.cell? ⟨gb, 2, none⟩ = some (.string s) := (blk_cell BX.out 2).trans rfl) | (go_at_call 27; (with_reducible refine (cell_Right.calls k i s false _ hr).mono ?_); rintro e w4 ⟨rfl, hb4⟩; have HB := Aside0.mk (below_step HB.out hb4); have BX := Aside0.mk (blk_below BX.out hb4); have c4_0 : w4.cell? ⟨gb, 0, none⟩ = some (.int .u8 k) := (blk_cell BX.out 0).trans rfl; have c4_1 : w4.cell? ⟨gb, 1, none⟩ = some (.int .i64 i) := (blk_cell BX.out 1).trans rfl; have c4_2 : w4.cell? ⟨gb, 2, none⟩ = some (.string s) := (blk_cell BX.out 2).trans rfl))
 first | go_ret | go_ret2
 exact ⟨rfl, by repeat (first | exact HB.out | apply below_alloc | apply pw_below_drewN | apply below_drew1)⟩

set_option maxHeartbeats 8000000 in
set_option maxRecDepth 100000 in
theorem to_null (i : Int) (s : ByteArray) (w : World) (hr : cell_Right.f 0 i s = some true) :
  Calls Try.prog 43 #[.agg #[.int .u8 0, .int .i64 i, .string s]] w fun e w' => e = .returned (.tuple #[.nilIface, .int .i64 0]) ∧ Below w.heap.size w w' := by
 have hu35 := Try.underlying35
 have HB := Aside0.mk (Below.refl w.heap.size w)
 go_enter Try.func43, Try.ntmps43
 go_wp2_with (first | ((with_reducible refine gate_dst (N := 1) rfl ?_); refine box_event ?hg (N := 1) ?hd (cs := #[.int .u8 0, .int .i64 i, .string s]) (t := 35) ?hr ?_; (case hd => rfl); (case hg => rfl); (case hr => first | (go_simp; done) | (go_simp; rfl)); intro gb hg w3 hbox hb; have HB := Aside0.mk (below_step HB.out hb); clear hb hg; have BX := Aside0.mk hbox; clear hbox; have c3_0 : w3.cell? ⟨gb, 0, none⟩ = some (.int .u8 0) := (blk_cell BX.out 0).trans rfl; have c3_1 : w3.cell? ⟨gb, 1, none⟩ = some (.int .i64 i) := (blk_cell BX.out 1).trans rfl; have c3_2 : w3.cell? ⟨gb, 2, none⟩ = some (.string s) := (blk_cell BX.out 2).trans rfl) | (go_at_call 27; (with_reducible refine (cell_Right.calls 0 i s true _ hr).mono ?_); rintro e w4 ⟨rfl, hb4⟩; have HB := Aside0.mk (below_step HB.out hb4); have BX := Aside0.mk (blk_below BX.out hb4); have c4_0 : w4.cell? ⟨gb, 0, none⟩ = some (.int .u8 0) := (blk_cell BX.out 0).trans rfl; have c4_1 : w4.cell? ⟨gb, 1, none⟩ = some (.int .i64 i) := (blk_cell BX.out 1).trans rfl; have c4_2 : w4.cell? ⟨gb, 2, none⟩ = some (.string s) := (blk_cell BX.out 2).trans rfl))
 first | go_ret | go_ret2
 exact ⟨rfl, by repeat (first | exact HB.out | apply below_alloc | apply pw_below_drewN | apply below_drew1)⟩

set_option maxHeartbeats 8000000 in
set_option maxRecDepth 100000 in
theorem to_int (i : Int) (s : ByteArray) (w : World) (hr : cell_Right.f 1 i s = some true) :
  Calls Try.prog 43 #[.agg #[.int .u8 1, .int .i64 i, .string s]] w fun e w' => e = .returned (.tuple #[.iface 2 (.int .i64 i), .int .i64 0]) ∧ Below w.heap.size w w' := by
 have hu35 := Try.underlying35
 have HB := Aside0.mk (Below.refl w.heap.size w)
 go_enter Try.func43, Try.ntmps43
 go_wp2_with (first | ((with_reducible refine gate_dst (N := 1) rfl ?_); refine box_event ?hg (N := 1) ?hd (cs := #[.int .u8 1, .int .i64 i, .string s]) (t := 35) ?hr ?_; (case hd => rfl); (case hg => rfl); (case hr => first | (go_simp; done) | (go_simp; rfl)); intro gb hg w3 hbox hb; have HB := Aside0.mk (below_step HB.out hb); clear hb hg; have BX := Aside0.mk hbox; clear hbox; have c3_0 : w3.cell? ⟨gb, 0, none⟩ = some (.int .u8 1) := (blk_cell BX.out 0).trans rfl; have c3_1 : w3.cell? ⟨gb, 1, none⟩ = some (.int .i64 i) := (blk_cell BX.out 1).trans rfl; have c3_2 : w3.cell? ⟨gb, 2, none⟩ = some (.string s) := (blk_cell BX.out 2).trans rfl) | (go_at_call 27; (with_reducible refine (cell_Right.calls 1 i s true _ hr).mono ?_); rintro e w4 ⟨rfl, hb4⟩; have HB := Aside0.mk (below_step HB.out hb4); have BX := Aside0.mk (blk_below BX.out hb4); have c4_0 : w4.cell? ⟨gb, 0, none⟩ = some (.int .u8 1) := (blk_cell BX.out 0).trans rfl; have c4_1 : w4.cell? ⟨gb, 1, none⟩ = some (.int .i64 i) := (blk_cell BX.out 1).trans rfl; have c4_2 : w4.cell? ⟨gb, 2, none⟩ = some (.string s) := (blk_cell BX.out 2).trans rfl))
 first | go_ret | go_ret2
 exact ⟨rfl, by repeat (first | exact HB.out | apply below_alloc | apply pw_below_drewN | apply below_drew1)⟩

set_option maxHeartbeats 8000000 in
set_option maxRecDepth 100000 in
theorem to_text (i : Int) (s : ByteArray) (w : World) (hr : cell_Right.f 2 i s = some true) :
  Calls Try.prog 43 #[.agg #[.int .u8 2, .int .i64 i, .string s]] w fun e w' => e = .returned (.tuple #[.iface 9 (.string s), .int .i64 0]) ∧ Below w.heap.size w w' := by
 have hu35 := Try.underlying35
 have HB := Aside0.mk (Below.refl w.heap.size w)
 go_enter Try.func43, Try.ntmps43
 go_wp2_with (first | ((with_reducible refine gate_dst (N := 1) rfl ?_); refine box_event ?hg (N := 1) ?hd (cs := #[.int .u8 2, .int .i64 i, .string s]) (t := 35) ?hr ?_; (case hd => rfl); (case hg => rfl); (case hr => first | (go_simp; done) | (go_simp; rfl)); intro gb hg w3 hbox hb; have HB := Aside0.mk (below_step HB.out hb); clear hb hg; have BX := Aside0.mk hbox; clear hbox; have c3_0 : w3.cell? ⟨gb, 0, none⟩ = some (.int .u8 2) := (blk_cell BX.out 0).trans rfl; have c3_1 : w3.cell? ⟨gb, 1, none⟩ = some (.int .i64 i) := (blk_cell BX.out 1).trans rfl; have c3_2 : w3.cell? ⟨gb, 2, none⟩ = some (.string s) := (blk_cell BX.out 2).trans rfl) | (go_at_call 27; (with_reducible refine (cell_Right.calls 2 i s true _ hr).mono ?_); rintro e w4 ⟨rfl, hb4⟩; have HB := Aside0.mk (below_step HB.out hb4); have BX := Aside0.mk (blk_below BX.out hb4); have c4_0 : w4.cell? ⟨gb, 0, none⟩ = some (.int .u8 2) := (blk_cell BX.out 0).trans rfl; have c4_1 : w4.cell? ⟨gb, 1, none⟩ = some (.int .i64 i) := (blk_cell BX.out 1).trans rfl; have c4_2 : w4.cell? ⟨gb, 2, none⟩ = some (.string s) := (blk_cell BX.out 2).trans rfl))
 first | go_ret | go_ret2
 exact ⟨rfl, by repeat (first | exact HB.out | apply below_alloc | apply pw_below_drewN | apply below_drew1)⟩

set_option maxHeartbeats 8000000 in
set_option maxRecDepth 100000 in
theorem number_int (i : Int) (w : World) : Calls Try.prog 45 #[.iface 2 (.int .i64 i)] w fun e w' => e = .returned (.tuple #[.int .i64 i, .bool true]) ∧ Below w.heap.size w w' := by
 have HB := Aside0.mk (Below.refl w.heap.size w)
 have hta : ∀ W : World, (Instr.typeAssert (.iface 2 (.int .i64 i)) 20 2 true).run Try.prog W = .ok (.tuple #[.int .i64 i, .bool true]) W := fun W => by rfl
 go_enter Try.func45, Try.ntmps45
 go_wp2
 first | go_ret | go_ret2
 exact ⟨rfl, by repeat (first | exact HB.out | apply below_alloc | apply pw_below_drewN | apply below_drew1)⟩
set_option maxHeartbeats 8000000 in
set_option maxRecDepth 100000 in
theorem must_int (i : Int) (w : World) : Calls Try.prog 46 #[.iface 2 (.int .i64 i)] w fun e w' => e = .returned (.int .i64 i) ∧ Below w.heap.size w w' := by
 have HB := Aside0.mk (Below.refl w.heap.size w)
 have hta : ∀ W : World, (Instr.typeAssert (.iface 2 (.int .i64 i)) 20 2 false).run Try.prog W = .ok (.int .i64 i) W := fun W => by rfl
 go_enter Try.func46, Try.ntmps46
 go_wp2
 first | go_ret | go_ret2
 exact ⟨rfl, by repeat (first | exact HB.out | apply below_alloc | apply pw_below_drewN | apply below_drew1)⟩

set_option maxHeartbeats 8000000 in
set_option maxRecDepth 100000 in
theorem number_nil (w : World) : Calls Try.prog 45 #[.nilIface] w fun e w' => e = .returned (.tuple #[.int .i64 0, .bool false]) ∧ Below w.heap.size w w' := by
 have HB := Aside0.mk (Below.refl w.heap.size w)
 have hta : ∀ W : World, (Instr.typeAssert (.nilIface) 20 2 true).run Try.prog W = .ok (.tuple #[.int .i64 0, .bool false]) W := fun W => by rfl
 go_enter Try.func45, Try.ntmps45
 go_wp2
 first | go_ret | go_ret2
 exact ⟨rfl, by repeat (first | exact HB.out | apply below_alloc | apply pw_below_drewN | apply below_drew1)⟩

set_option maxHeartbeats 8000000 in
set_option maxRecDepth 100000 in
theorem number_text (s : ByteArray) (w : World) : Calls Try.prog 45 #[.iface 9 (.string s)] w fun e w' => e = .returned (.tuple #[.int .i64 0, .bool false]) ∧ Below w.heap.size w w' := by
 have HB := Aside0.mk (Below.refl w.heap.size w)
 have hta : ∀ W : World, (Instr.typeAssert (.iface 9 (.string s)) 20 2 true).run Try.prog W = .ok (.tuple #[.int .i64 0, .bool false]) W := fun W => by rfl
 go_enter Try.func45, Try.ntmps45
 go_wp2
 first | go_ret | go_ret2
 exact ⟨rfl, by repeat (first | exact HB.out | apply below_alloc | apply pw_below_drewN | apply below_drew1)⟩

set_option maxHeartbeats 8000000 in
set_option maxRecDepth 100000 in
theorem number_blob (v : Value) (w : World) : Calls Try.prog 45 #[.iface 23 v] w fun e w' => e = .returned (.tuple #[.int .i64 0, .bool false]) ∧ Below w.heap.size w w' := by
 have HB := Aside0.mk (Below.refl w.heap.size w)
 have hta : ∀ W : World, (Instr.typeAssert (.iface 23 v) 20 2 true).run Try.prog W = .ok (.tuple #[.int .i64 0, .bool false]) W := fun W => by rfl
 go_enter Try.func45, Try.ntmps45
 go_wp2
 first | go_ret | go_ret2
 exact ⟨rfl, by repeat (first | exact HB.out | apply below_alloc | apply pw_below_drewN | apply below_drew1)⟩

/-- A world's row of a text's bytes is read as that text. -/
theorem blob_reads (s : ByteArray) (cap g : Nat) (w W' : World) (fr : Nat × Nat) (h : w.heap[g]? = some (.cells (bytesRow s cap) 5 fr)) (hb : Below w.heap.size w W') (hg : g < w.heap.size) (hi : w.heap.size ≤ w.heap.size) :
  (convert 23 9 (.slice (some ⟨g, 0, none⟩) s.size cap)).run Try.prog W' = .ok (.string s) W' := by
 have h2 : W'.heap[g]? = some (.cells (bytesRow s cap) 5 fr) := (hb.block g hg).trans h
 have hsz : s.data.size = s.size := rfl
 have hlen : (bytesOf s).length = s.size := by unfold bytesOf; rw [List.length_map, Array.length_toList]; rfl
 have hB : Lib.BytesIn W' (some ⟨g, 0, none⟩) s.size (bytesOf s) := by
  intro hn
  refine ⟨g, 0, rfl, fun j hj => ?_⟩
  rw [cell_of_row W' g _ _ _ _ h2]
  unfold bytesRow
  rw [Nat.zero_add, Array.getElem?_append_left (by simp; omega)]
  simp only [Array.getElem?_map]
  have hj2 : j < s.data.size := by omega
  rw [Array.getElem?_eq_getElem hj2]
  simp only [Option.map_some]
  congr 2
  rw [List.getD_eq_getElem?_getD, List.getElem?_eq_getElem (by omega)]
  simp [bytesOf]
 have hc := hB.convert (P := Try.prog) hlen cap 23 5 9 Try.underlying23 Try.underlying5 Try.underlying9
 have hs : strOfNums (bytesOf s) = s := by
  have h3 : (strOfNums (bytesOf s)).data = s.data := by
   unfold strOfNums bytesOf
   simp only [List.map_map]
   apply Array.ext'
   simp only []
   conv => rhs; rw [← List.map_id s.data.toList]
   apply List.map_congr_left
   intro x _
   simp
  cases s
  cases h4 : strOfNums (bytesOf _)
  simp_all
 rw [hs] at hc
 exact hc

set_option maxHeartbeats 8000000 in
set_option maxRecDepth 100000 in
theorem to_blob (i : Int) (s : ByteArray) (w : World) (hr : cell_Right.f 3 i s = some true) :
  Calls Try.prog 43 #[.agg #[.int .u8 3, .int .i64 i, .string s]] w fun e w' => ∃ v, e = .returned (.tuple #[.iface 23 v, .int .i64 0]) ∧ Below w.heap.size w w' ∧ ∀ W', Below w'.heap.size w' W' → (convert 23 9 v).run Try.prog W' = .ok (.string s) W' := by
 have hu35 := Try.underlying35
 have HB := Aside0.mk (Below.refl w.heap.size w)
 have hcv : ∀ W : World, (convert 9 23 (.string s)).run Try.prog W = .ok (.slice (some ⟨W.heap.size, 0, none⟩) s.size (grownCap W s.size 0 5)) (W.drew.alloc (.cells (bytesRow s (grownCap W s.size 0 5)) 5 ((bytesRow s (grownCap W s.size 0 5)).size, (bytesRow s (grownCap W s.size 0 5)).size + 1))) := fun W => run_bytes_of_string W 9 23 5 s Try.underlying9 Try.underlying23 Try.underlying5
 go_enter Try.func43, Try.ntmps43
 go_wp2_with (first | ((with_reducible refine gate_dst (N := 1) rfl ?_); refine box_event ?hg (N := 1) ?hd (cs := #[.int .u8 3, .int .i64 i, .string s]) (t := 35) ?hr ?_; (case hd => rfl); (case hg => rfl); (case hr => first | (go_simp; done) | (go_simp; rfl)); intro gb hg w3 hbox hb; have HB := Aside0.mk (below_step HB.out hb); clear hb hg; have BX := Aside0.mk hbox; clear hbox; have c3_0 : w3.cell? ⟨gb, 0, none⟩ = some (.int .u8 3) := (blk_cell BX.out 0).trans rfl; have c3_1 : w3.cell? ⟨gb, 1, none⟩ = some (.int .i64 i) := (blk_cell BX.out 1).trans rfl; have c3_2 : w3.cell? ⟨gb, 2, none⟩ = some (.string s) := (blk_cell BX.out 2).trans rfl) | (go_at_call 27; (with_reducible refine (cell_Right.calls 3 i s true _ hr).mono ?_); rintro e w4 ⟨rfl, hb4⟩; have HB := Aside0.mk (below_step HB.out hb4); have BX := Aside0.mk (blk_below BX.out hb4); have c4_0 : w4.cell? ⟨gb, 0, none⟩ = some (.int .u8 3) := (blk_cell BX.out 0).trans rfl; have c4_1 : w4.cell? ⟨gb, 1, none⟩ = some (.int .i64 i) := (blk_cell BX.out 1).trans rfl; have c4_2 : w4.cell? ⟨gb, 2, none⟩ = some (.string s) := (blk_cell BX.out 2).trans rfl))
 first | go_ret | go_ret2
 refine ⟨_, rfl, ?_, ?_⟩
 · repeat (first | exact HB.out | apply below_alloc | apply pw_below_drewN | apply below_drew1)
 · intro W' hW
   refine blob_reads s _ w4.heap.size _ W' ((bytesRow s (grownCap w4 s.size 0 5)).size, (bytesRow s (grownCap w4 s.size 0 5)).size + 1) ?_ hW ?_ (Nat.le_refl _)
   · exact heap_alloc_new w4 _
   · show w4.heap.size < (w4.heap.push _).size
     rw [Array.size_push]; omega

set_option maxHeartbeats 8000000 in
set_option maxRecDepth 100000 in
theorem from_nil  (w : World) : Calls Try.prog 44 #[.nilIface] w fun e w' => e = .returned (.tuple #[.agg #[.int .u8 0, .int .i64 0, .string (⟨#[]⟩ : ByteArray)], .bool true]) ∧ Below w.heap.size w w' := by
 have hu35 := Try.underlying35
 have HB := Aside0.mk (Below.refl w.heap.size w)
 go_enter Try.func44, Try.ntmps44
 go_wp2_with (((with_reducible refine gate_dst (N := 2) rfl ?_); refine box_event ?hg (N := 2) ?hd (cs := #[.int .u8 0, .int .i64 0, .string (⟨#[]⟩ : ByteArray)]) (t := 35) ?hr ?_; (case hd => rfl); (case hg => rfl); (case hr => first | (go_simp; done) | (go_simp; rfl)); intro gb hg w3 hbox hb; have HG := Aside0.mk (by rw [hg]; exact Nat.le_refl _ : w.heap.size ≤ gb); have HB := Aside0.mk (below_step HB.out hb); clear hb hg; have BX := Aside0.mk hbox; clear hbox; have c3_0 : w3.cell? ⟨gb, 0, none⟩ = some (.int .u8 0) := (blk_cell BX.out 0).trans rfl; have c3_1 : w3.cell? ⟨gb, 1, none⟩ = some (.int .i64 0) := (blk_cell BX.out 1).trans rfl; have c3_2 : w3.cell? ⟨gb, 2, none⟩ = some (.string (⟨#[]⟩ : ByteArray)) := (blk_cell BX.out 2).trans rfl; have f3_0 := blk_frozen BX.out 0; have f3_1 := blk_frozen BX.out 1; have f3_2 := blk_frozen BX.out 2))
 refine bodyPost_ret (results_ct rfl _ _ gb 35 #[.int .u8 0, .int .i64 0, .string (⟨#[]⟩ : ByteArray)] (0, 0) _ rfl (by (with_reducible repeat (first | refine blk_drewN ?_ _ | refine blk_drew ?_ | refine blk_alloc ?_ _)); refine blk_put (cs := #[.int .u8 0, .int .i64 0, .string (⟨#[]⟩ : ByteArray)]) ?_ 2 _ rfl; refine blk_put (cs := #[.int .u8 0, .int .i64 0, .string (⟨#[]⟩ : ByteArray)]) ?_ 1 _ rfl; refine blk_put (cs := #[.int .u8 0, .int .i64 0, .string (⟨#[]⟩ : ByteArray)]) ?_ 0 _ rfl; (with_reducible repeat (first | refine blk_drewN ?_ _ | refine blk_drew ?_ | refine blk_alloc ?_ _)); exact BX.out) Try.underlying35 rfl (by kernel_rfl)) rfl ?_
 exact ⟨rfl, by repeat (first | (with_reducible first | exact HB.out | apply below_alloc | apply pw_below_drewN | apply below_drew1 | refine below_set ?_ HG.out) | exact HB.out)⟩

set_option maxHeartbeats 8000000 in
set_option maxRecDepth 100000 in
theorem from_int (i : Int) (w : World) : Calls Try.prog 44 #[.iface 2 (.int .i64 i)] w fun e w' => e = .returned (.tuple #[.agg #[.int .u8 1, .int .i64 i, .string (⟨#[]⟩ : ByteArray)], .bool true]) ∧ Below w.heap.size w w' := by
 have hu35 := Try.underlying35
 have HB := Aside0.mk (Below.refl w.heap.size w)
 have hta0 : ∀ W : World, (Instr.typeAssert (.iface 2 (.int .i64 i)) 20 2 true).run Try.prog W = .ok (.tuple #[.int .i64 i, .bool true]) W := fun W => by rfl
 go_enter Try.func44, Try.ntmps44
 go_wp2_with (((with_reducible refine gate_dst (N := 2) rfl ?_); refine box_event ?hg (N := 2) ?hd (cs := #[.int .u8 0, .int .i64 0, .string (⟨#[]⟩ : ByteArray)]) (t := 35) ?hr ?_; (case hd => rfl); (case hg => rfl); (case hr => first | (go_simp; done) | (go_simp; rfl)); intro gb hg w3 hbox hb; have HG := Aside0.mk (by rw [hg]; exact Nat.le_refl _ : w.heap.size ≤ gb); have HB := Aside0.mk (below_step HB.out hb); clear hb hg; have BX := Aside0.mk hbox; clear hbox; have c3_0 : w3.cell? ⟨gb, 0, none⟩ = some (.int .u8 0) := (blk_cell BX.out 0).trans rfl; have c3_1 : w3.cell? ⟨gb, 1, none⟩ = some (.int .i64 0) := (blk_cell BX.out 1).trans rfl; have c3_2 : w3.cell? ⟨gb, 2, none⟩ = some (.string (⟨#[]⟩ : ByteArray)) := (blk_cell BX.out 2).trans rfl; have f3_0 := blk_frozen BX.out 0; have f3_1 := blk_frozen BX.out 1; have f3_2 := blk_frozen BX.out 2))
 refine bodyPost_ret (results_ct rfl _ _ gb 35 #[.int .u8 1, .int .i64 i, .string (⟨#[]⟩ : ByteArray)] (0, 0) _ rfl (by (with_reducible repeat (first | refine blk_drewN ?_ _ | refine blk_drew ?_ | refine blk_alloc ?_ _)); refine blk_put (cs := #[.int .u8 1, .int .i64 i, .string (⟨#[]⟩ : ByteArray)]) ?_ 2 _ rfl; refine blk_put (cs := #[.int .u8 1, .int .i64 0, .string (⟨#[]⟩ : ByteArray)]) ?_ 1 _ rfl; refine blk_put (cs := #[.int .u8 0, .int .i64 0, .string (⟨#[]⟩ : ByteArray)]) ?_ 0 _ rfl; (with_reducible repeat (first | refine blk_drewN ?_ _ | refine blk_drew ?_ | refine blk_alloc ?_ _)); exact BX.out) Try.underlying35 rfl (by kernel_rfl)) rfl ?_
 exact ⟨rfl, by repeat (first | (with_reducible first | exact HB.out | apply below_alloc | apply pw_below_drewN | apply below_drew1 | refine below_set ?_ HG.out) | exact HB.out)⟩

set_option maxHeartbeats 8000000 in
set_option maxRecDepth 100000 in
theorem from_text (s : ByteArray) (w : World) : Calls Try.prog 44 #[.iface 9 (.string s)] w fun e w' => e = .returned (.tuple #[.agg #[.int .u8 2, .int .i64 0, .string s], .bool true]) ∧ Below w.heap.size w w' := by
 have hu35 := Try.underlying35
 have HB := Aside0.mk (Below.refl w.heap.size w)
 have hta0 : ∀ W : World, (Instr.typeAssert (.iface 9 (.string s)) 20 2 true).run Try.prog W = .ok (.tuple #[.int .i64 0, .bool false]) W := fun W => by rfl
 have hta1 : ∀ W : World, (Instr.typeAssert (.iface 9 (.string s)) 20 9 true).run Try.prog W = .ok (.tuple #[.string s, .bool true]) W := fun W => by rfl
 go_enter Try.func44, Try.ntmps44
 go_wp2_with (((with_reducible refine gate_dst (N := 2) rfl ?_); refine box_event ?hg (N := 2) ?hd (cs := #[.int .u8 0, .int .i64 0, .string (⟨#[]⟩ : ByteArray)]) (t := 35) ?hr ?_; (case hd => rfl); (case hg => rfl); (case hr => first | (go_simp; done) | (go_simp; rfl)); intro gb hg w3 hbox hb; have HG := Aside0.mk (by rw [hg]; exact Nat.le_refl _ : w.heap.size ≤ gb); have HB := Aside0.mk (below_step HB.out hb); clear hb hg; have BX := Aside0.mk hbox; clear hbox; have c3_0 : w3.cell? ⟨gb, 0, none⟩ = some (.int .u8 0) := (blk_cell BX.out 0).trans rfl; have c3_1 : w3.cell? ⟨gb, 1, none⟩ = some (.int .i64 0) := (blk_cell BX.out 1).trans rfl; have c3_2 : w3.cell? ⟨gb, 2, none⟩ = some (.string (⟨#[]⟩ : ByteArray)) := (blk_cell BX.out 2).trans rfl; have f3_0 := blk_frozen BX.out 0; have f3_1 := blk_frozen BX.out 1; have f3_2 := blk_frozen BX.out 2))
 refine bodyPost_ret (results_ct rfl _ _ gb 35 #[.int .u8 2, .int .i64 0, .string s] (0, 0) _ rfl (by (with_reducible repeat (first | refine blk_drewN ?_ _ | refine blk_drew ?_ | refine blk_alloc ?_ _)); refine blk_put (cs := #[.int .u8 2, .int .i64 0, .string (⟨#[]⟩ : ByteArray)]) ?_ 2 _ rfl; refine blk_put (cs := #[.int .u8 2, .int .i64 0, .string (⟨#[]⟩ : ByteArray)]) ?_ 1 _ rfl; refine blk_put (cs := #[.int .u8 0, .int .i64 0, .string (⟨#[]⟩ : ByteArray)]) ?_ 0 _ rfl; (with_reducible repeat (first | refine blk_drewN ?_ _ | refine blk_drew ?_ | refine blk_alloc ?_ _)); exact BX.out) Try.underlying35 rfl (by kernel_rfl)) rfl ?_
 exact ⟨rfl, by repeat (first | (with_reducible first | exact HB.out | apply below_alloc | apply pw_below_drewN | apply below_drew1 | refine below_set ?_ HG.out) | exact HB.out)⟩

set_option maxHeartbeats 8000000 in
set_option maxRecDepth 100000 in
theorem from_five  (w : World) : Calls Try.prog 44 #[.iface 21 (.int .i32 5)] w fun e w' => e = .returned (.tuple #[.agg #[.int .u8 0, .int .i64 0, .string (⟨#[]⟩ : ByteArray)], .bool false]) ∧ Below w.heap.size w w' := by
 have hu35 := Try.underlying35
 have HB := Aside0.mk (Below.refl w.heap.size w)
 have hta0 : ∀ W : World, (Instr.typeAssert (.iface 21 (.int .i32 5)) 20 2 true).run Try.prog W = .ok (.tuple #[.int .i64 0, .bool false]) W := fun W => by rfl
 have hta1 : ∀ W : World, (Instr.typeAssert (.iface 21 (.int .i32 5)) 20 9 true).run Try.prog W = .ok (.tuple #[.string (⟨#[]⟩ : ByteArray), .bool false]) W := fun W => by rfl
 have hta2 : ∀ W : World, (Instr.typeAssert (.iface 21 (.int .i32 5)) 20 23 true).run Try.prog W = .ok (.tuple #[.slice none 0 0, .bool false]) W := fun W => by rfl
 go_enter Try.func44, Try.ntmps44
 go_wp2_with (((with_reducible refine gate_dst (N := 2) rfl ?_); refine box_event ?hg (N := 2) ?hd (cs := #[.int .u8 0, .int .i64 0, .string (⟨#[]⟩ : ByteArray)]) (t := 35) ?hr ?_; (case hd => rfl); (case hg => rfl); (case hr => first | (go_simp; done) | (go_simp; rfl)); intro gb hg w3 hbox hb; have HG := Aside0.mk (by rw [hg]; exact Nat.le_refl _ : w.heap.size ≤ gb); have HB := Aside0.mk (below_step HB.out hb); clear hb hg; have BX := Aside0.mk hbox; clear hbox; have c3_0 : w3.cell? ⟨gb, 0, none⟩ = some (.int .u8 0) := (blk_cell BX.out 0).trans rfl; have c3_1 : w3.cell? ⟨gb, 1, none⟩ = some (.int .i64 0) := (blk_cell BX.out 1).trans rfl; have c3_2 : w3.cell? ⟨gb, 2, none⟩ = some (.string (⟨#[]⟩ : ByteArray)) := (blk_cell BX.out 2).trans rfl; have f3_0 := blk_frozen BX.out 0; have f3_1 := blk_frozen BX.out 1; have f3_2 := blk_frozen BX.out 2))
 refine bodyPost_ret (results_ct rfl _ _ gb 35 #[.int .u8 0, .int .i64 0, .string (⟨#[]⟩ : ByteArray)] (0, 0) _ rfl (by (with_reducible repeat (first | refine blk_drewN ?_ _ | refine blk_drew ?_ | refine blk_alloc ?_ _)); refine blk_put (cs := #[.int .u8 0, .int .i64 0, .string (⟨#[]⟩ : ByteArray)]) ?_ 2 _ rfl; refine blk_put (cs := #[.int .u8 0, .int .i64 0, .string (⟨#[]⟩ : ByteArray)]) ?_ 1 _ rfl; refine blk_put (cs := #[.int .u8 0, .int .i64 0, .string (⟨#[]⟩ : ByteArray)]) ?_ 0 _ rfl; (with_reducible repeat (first | refine blk_drewN ?_ _ | refine blk_drew ?_ | refine blk_alloc ?_ _)); exact BX.out) Try.underlying35 rfl (by kernel_rfl)) rfl ?_
 exact ⟨rfl, by repeat (first | (with_reducible first | exact HB.out | apply below_alloc | apply pw_below_drewN | apply below_drew1 | refine below_set ?_ HG.out) | exact HB.out)⟩

set_option maxHeartbeats 8000000 in
set_option maxRecDepth 100000 in
theorem from_blob (v : Value) (s : ByteArray) (w : World) (hcv : ∀ W', Below w.heap.size w W' → (convert 23 9 v).run Try.prog W' = .ok (.string s) W') : Calls Try.prog 44 #[.iface 23 v] w fun e w' => e = .returned (.tuple #[.agg #[.int .u8 3, .int .i64 0, .string s], .bool true]) ∧ Below w.heap.size w w' := by
 have hu35 := Try.underlying35
 have HB := Aside0.mk (Below.refl w.heap.size w)
 have hta0 : ∀ W : World, (Instr.typeAssert (.iface 23 v) 20 2 true).run Try.prog W = .ok (.tuple #[.int .i64 0, .bool false]) W := fun W => by rfl
 have hta1 : ∀ W : World, (Instr.typeAssert (.iface 23 v) 20 9 true).run Try.prog W = .ok (.tuple #[.string (⟨#[]⟩ : ByteArray), .bool false]) W := fun W => by rfl
 have hta2 : ∀ W : World, (Instr.typeAssert (.iface 23 v) 20 23 true).run Try.prog W = .ok (.tuple #[v, .bool true]) W := fun W => by rfl
 go_enter Try.func44, Try.ntmps44
 go_wp2_with (((with_reducible refine gate_dst (N := 2) rfl ?_); refine box_event ?hg (N := 2) ?hd (cs := #[.int .u8 0, .int .i64 0, .string (⟨#[]⟩ : ByteArray)]) (t := 35) ?hr ?_; (case hd => rfl); (case hg => rfl); (case hr => first | (go_simp; done) | (go_simp; rfl)); intro gb hg w3 hbox hb; have HG := Aside0.mk (by rw [hg]; exact Nat.le_refl _ : w.heap.size ≤ gb); have HB := Aside0.mk (below_step HB.out hb); clear hb hg; have BX := Aside0.mk hbox; clear hbox; have c3_0 : w3.cell? ⟨gb, 0, none⟩ = some (.int .u8 0) := (blk_cell BX.out 0).trans rfl; have c3_1 : w3.cell? ⟨gb, 1, none⟩ = some (.int .i64 0) := (blk_cell BX.out 1).trans rfl; have c3_2 : w3.cell? ⟨gb, 2, none⟩ = some (.string (⟨#[]⟩ : ByteArray)) := (blk_cell BX.out 2).trans rfl; have f3_0 := blk_frozen BX.out 0; have f3_1 := blk_frozen BX.out 1; have f3_2 := blk_frozen BX.out 2; have hcv3 := hcv w3 HB.out))
 refine bodyPost_ret (results_ct rfl _ _ gb 35 #[.int .u8 3, .int .i64 0, .string s] (0, 0) _ rfl (by (with_reducible repeat (first | refine blk_drewN ?_ _ | refine blk_drew ?_ | refine blk_alloc ?_ _)); refine blk_put (cs := #[.int .u8 3, .int .i64 0, .string (⟨#[]⟩ : ByteArray)]) ?_ 2 _ rfl; refine blk_put (cs := #[.int .u8 3, .int .i64 0, .string (⟨#[]⟩ : ByteArray)]) ?_ 1 _ rfl; refine blk_put (cs := #[.int .u8 0, .int .i64 0, .string (⟨#[]⟩ : ByteArray)]) ?_ 0 _ rfl; (with_reducible repeat (first | refine blk_drewN ?_ _ | refine blk_drew ?_ | refine blk_alloc ?_ _)); exact BX.out) Try.underlying35 rfl (by kernel_rfl)) rfl ?_
 exact ⟨rfl, by repeat (first | (with_reducible first | exact HB.out | apply below_alloc | apply pw_below_drewN | apply below_drew1 | refine below_set ?_ HG.out) | exact HB.out)⟩

end Go.Proofs.Ytefpnnljflcmbaa.PCe