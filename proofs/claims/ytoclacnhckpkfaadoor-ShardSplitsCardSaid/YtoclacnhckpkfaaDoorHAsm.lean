/- Written by hand: shard's assembler as a block of 259 cells; New, Of. -/
import Derived.Test.YtoclacnhckpkfaaDoorHandAll
import Derived.Test.YtoclacnhckpkfaaDoorB
import Derived.Test.YtoclacnhckpkfaaDoorFAManAll
namespace Go.Proofs.YtoclacnhckpkfaaDoor.FA
open Go.RowKit Go.Proofs.YtoclacnhckpkfaaDoorW.PrintWords Go.Proofs.YtoclacnhckpkfaaDoorW.PrintLast Go.Proofs.YtoclacnhckpkfaaDoorW.PrintMore Go.Proofs.YtoclacnhckpkfaaDoor.Hand Go.Proofs.YtoclacnhckpkfaaDoor.B
set_option linter.unusedVariables false
set_option linter.unusedSimpArgs false
/-- An assembler's cells. -/
def asmCells (op sz sm : Int) (d : List ByteArray) : Array Value := (.int .i64 op :: .int .i64 sz :: .int .i64 sm :: d.map Value.string).toArray
def noData : List ByteArray := List.replicate 256 ⟨#[]⟩
/-- A block that holds an assembler. -/
def ABox (N : Nat) (w : World) (g : Nat) (op sz sm : Int) (d : List ByteArray) : Prop := d.length = 256 ∧ w.heap[g]? = some (.cells (asmCells op sz sm d) 73 (0, 0)) ∧ N ≤ g
theorem ABox.below {N : Nat} {w w' : World} {g : Nat} {op sz sm : Int} {d : List ByteArray} (h : ABox N w g op sz sm d) (hb : Below w.heap.size w w') : ABox N w' g op sz sm d := ⟨h.1, blk_below h.2.1 hb, h.2.2⟩
theorem ABox.c0 {N : Nat} {w : World} {g : Nat} {op sz sm : Int} {d : List ByteArray} (h : ABox N w g op sz sm d) : w.cell? ⟨g, 0, none⟩ = some (.int .i64 op) := (blk_cell h.2.1 0).trans rfl
theorem ABox.c1 {N : Nat} {w : World} {g : Nat} {op sz sm : Int} {d : List ByteArray} (h : ABox N w g op sz sm d) : w.cell? ⟨g, 1, none⟩ = some (.int .i64 sz) := (blk_cell h.2.1 1).trans rfl
theorem ABox.c2 {N : Nat} {w : World} {g : Nat} {op sz sm : Int} {d : List ByteArray} (h : ABox N w g op sz sm d) : w.cell? ⟨g, 2, none⟩ = some (.int .i64 sm) := (blk_cell h.2.1 2).trans rfl
theorem ABox.cd {N : Nat} {w : World} {g : Nat} {op sz sm : Int} {d : List ByteArray} (h : ABox N w g op sz sm d) (i : Nat) (hi : i < d.length) : w.cell? ⟨g, 3 + i, none⟩ = some (.string d[i]) := by
  rw [blk_cell h.2.1 (3 + i)]
  unfold asmCells
  rw [show 3 + i = i + 1 + 1 + 1 by omega]
  simp [hi]
theorem ABox.fz {N : Nat} {w : World} {g : Nat} {op sz sm : Int} {d : List ByteArray} (h : ABox N w g op sz sm d) (i : Nat) : w.frozen? ⟨g, i, none⟩ = false := blk_frozen h.2.1 i
theorem ABox.put {N : Nat} {w : World} {g : Nat} {op sz sm : Int} {d : List ByteArray} (h : ABox N w g op sz sm d) (i : Nat) (s : ByteArray) : ABox N (w.setCell ⟨g, 3 + i, none⟩ (.string s)) g op sz sm (d.set i s) := by
  refine ⟨by rw [List.length_set]; exact h.1, ?_, h.2.2⟩
  refine blk_put (cs := asmCells op sz sm d) h.2.1 (3 + i) _ ?_
  unfold asmCells
  rw [show 3 + i = i + 1 + 1 + 1 by omega]
  simp [List.map_set]
theorem infoAsm : (Tryd.prog.info? 73).map (fun i => i.zero) = some (some (.agg (asmCells 0 0 0 noData))) := by kernel_rfl
theorem zvAsm (w : World) : (zeroValue 73).run Tryd.prog w = .ok (.agg (asmCells 0 0 0 noData)) w := by
  obtain ⟨i, hi, hz⟩ := Option.map_eq_some_iff.1 infoAsm
  simp [zeroValue, typeInfo, go_sem, hi, hz]
theorem setAsm (op sz sm : Int) : ((((asmCells 0 0 0 noData).setIfInBounds 0 (Value.int IntKind.i64 op)).setIfInBounds 1 (Value.int IntKind.i64 sz)).setIfInBounds 2 (Value.int IntKind.i64 sm)) = asmCells op sz sm noData := by
  simp [asmCells]
theorem sizeAsm (op sz sm : Int) : (asmCells op sz sm noData).size = 259 := by
  unfold asmCells noData
  rw [List.size_toArray]
  simp only [List.length_cons, List.length_map, List.length_replicate]
attribute [local go_sem high] zvAsm setAsm sizeAsm
set_option maxHeartbeats 8000000 in
set_option maxRecDepth 100000 in
theorem shard_New.good (op sz sm : Int) (w : World) (he : shard_Check.f op sz sm = some 0) : Calls Tryd.prog 14 #[.agg #[.int .i64 op, .int .i64 sz, .int .i64 sm]] w fun ev w' => ∃ g, ev = .returned (.tuple #[.pointer (some ⟨g, 0, none⟩), .int .i64 0]) ∧ ABox w.heap.size w' g op sz sm noData ∧ Below w.heap.size w w' := by
  have HB := Aside0.mk (Below.refl w.heap.size w)
  have HE := Aside0.mk he
  clear he
  go_enter Tryd.func14, Tryd.ntmps14
  go_upto_region 4 with (first | ((with_reducible refine gate_dst (N := 1) rfl ?_); refine box_event ?hg (N := 1) ?hd (cs := #[.int .i64 op, .int .i64 sz, .int .i64 sm]) (t := 23) ?hr ?_; (case hd => rfl); (case hg => rfl); (case hr => first | (go_simp; done) | (go_simp; rfl)); intro g1 hg w1_ hbox hb; have BK1 := Aside0.mk hbox; have n1_ := Aside0.mk (below_step HB.out hb); clear HB; have HB := n1_; clear n1_ hb hbox hg; have hz0 := (blk_cell BK1.out 0).trans rfl; have hz1 := (blk_cell BK1.out 1).trans rfl; have hz2 := (blk_cell BK1.out 2).trans rfl) | (go_at_call 12; (with_reducible refine (shard_Check.calls op sz sm 0 _ HE.out).mono ?_); rintro e_ w2_ ⟨rfl, hb⟩; have n0_ := Aside0.mk (show w2_.heap[g1]? = some (.cells #[.int .i64 op, .int .i64 sz, .int .i64 sm] 23 (0, 0)) from blk_below BK1.out hb); have n1_ := Aside0.mk (below_step HB.out hb); clear HB BK1 hz0 hz1 hz2; have HB := n1_; have BK1 := n0_; clear n0_ n1_ hb; have hz0 := (blk_cell BK1.out 0).trans rfl; have hz1 := (blk_cell BK1.out 1).trans rfl; have hz2 := (blk_cell BK1.out 2).trans rfl))
  go_wp2_with (first | ((with_reducible refine gate_dst (N := 11) rfl ?_); refine Kd.event_run (v := .agg (asmCells op sz sm noData)) ?hg ?hr ?_; (case hg => rfl); (case hr => first | (go_simp; rfl) | (go_simp; done))) | ((with_reducible refine gate_dst (N := 12) rfl ?_); refine box_event ?hg (N := 12) ?hd (cs := asmCells op sz sm noData) (t := 73) ?hr ?_; (case hd => rfl); (case hg => rfl); (case hr => first | (go_simp; done) | (go_simp; rfl)); intro g2 hg w3_ hbox hb; have BK2 := Aside0.mk hbox; have GE2 := Aside0.mk (show w.heap.size ≤ g2 from by rw [hg]; exact HB.out.size); have n1_ := Aside0.mk (below_step HB.out hb); clear HB; have HB := n1_; clear n1_ hb hbox hg))
  go_ret2
  exact ⟨g2, rfl, ⟨List.length_replicate, BK2.out, GE2.out⟩, HB.out⟩
end Go.Proofs.YtoclacnhckpkfaaDoor.FA
