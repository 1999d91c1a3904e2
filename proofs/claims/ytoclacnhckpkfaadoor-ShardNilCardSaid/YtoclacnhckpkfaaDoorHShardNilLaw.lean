/- Written by hand: the law ShardNil. -/
import Derived.Test.YtoclacnhckpkfaaDoorShardTwoFns
namespace Go.Proofs.YtoclacnhckpkfaaDoor.FA
open Go.RowKit Go.Proofs.YtoclacnhckpkfaaDoorW.PrintWords Go.Proofs.YtoclacnhckpkfaaDoorW.PrintLast Go.Proofs.YtoclacnhckpkfaaDoorW.PrintMore Go.Proofs.YtoclacnhckpkfaaDoor.Hand Go.Proofs.YtoclacnhckpkfaaDoor.B
set_option linter.unusedVariables false
set_option linter.unusedSimpArgs false
theorem eqM_ (d : Nat) (w : World) (x0 y0 : Int) (x1 y1 : Int) (x2 y2 : Int) : (Op.equalIn (d + 2) 23 (.agg #[.int .i64 x0, .int .i64 x1, .int .i64 x2]) (.agg #[.int .i64 y0, .int .i64 y1, .int .i64 y2])).run Tryd.prog w = .ok (x0 == y0 && (x1 == y1 && (x2 == y2))) w := by
  refine eqA_of Tryd.underlying23 (by kernel_rfl) ?_
  refine eqf_cons (by rfl) (by go_simp; rfl) (by go_simp; rfl) (by go_simp) ?_
  refine eqf_cons (by rfl) (by go_simp; rfl) (by go_simp; rfl) (by go_simp) ?_
  exact eqf_last (by rfl) (by go_simp; rfl) (by go_simp; rfl) (by go_simp)
attribute [local go_sem high] eqM_
def sextonlaw19_ShardNil.f (a0_0 a0_1 : Int) (a0_2 : ByteArray) (a0_3 : Int) : Option Bool := some true
set_option maxHeartbeats 8000000 in
set_option maxRecDepth 100000 in
theorem shardNil_walk (so sn : Int) (sd : ByteArray) (ss : Int) (w : World) (hT : TabW w) : Calls Tryd.prog 7 #[.agg #[.int .i64 so, .int .i64 sn, .string sd, .int .i64 ss]] w fun e w' => e = .returned (.bool true) ∧ Below w.heap.size w w' := by
  have HB := Aside0.mk (Below.refl w.heap.size w)
  have HT := Aside0.mk hT
  clear hT
  go_enter Tryd.func7, Tryd.ntmps7
  go_wp2_with (first | ((with_reducible refine gate_dst (N := 1) rfl ?_); refine box_event ?hg (N := 1) ?hd (cs := #[.int .i64 so, .int .i64 sn, .string sd, .int .i64 ss]) (t := 36) ?hr ?_; (case hd => rfl); (case hg => rfl); (case hr => first | (go_simp; done) | (go_simp; rfl)); intro g1 hg w1_ hbox hb; have BK1 := Aside0.mk hbox; have n1_ := Aside0.mk (below_step HB.out hb); clear HB; have HB := n1_; clear n1_ hb hbox hg; have hz0 := (blk_cell BK1.out 0).trans rfl; have hz1 := (blk_cell BK1.out 1).trans rfl; have hz2 := (blk_cell BK1.out 2).trans rfl; have hz3 := (blk_cell BK1.out 3).trans rfl) | (go_at_call 15; (with_reducible refine (shard_Add.nil so sn sd ss _).mono ?_); rintro e_ w2_ ⟨rfl, hb⟩; have n1_ := Aside0.mk (below_step HB.out hb); clear HB hz0 hz1 hz2 hz3; have HB := n1_; clear n1_ hb) | (go_at_call 17; (with_reducible refine (shard_Text.nil _).mono ?_); rintro e_ w3_ ⟨rfl, rfl⟩) | (go_at_call 18; (with_reducible refine (shard_Missing.nil _).mono ?_); rintro e_ w4_ ⟨rfl, rfl⟩) | (go_at_call 19; (with_reducible refine (shard_Of.nil _).mono ?_); rintro e_ w5_ ⟨rfl, hb⟩; have n1_ := Aside0.mk (below_step HB.out hb); clear HB; have HB := n1_; clear n1_ hb) | (go_at_call 8; (with_reducible refine (two_calls _ (TabW.below HT.out HB.out)).mono ?_); rintro e_ w6_ ⟨rfl, hb⟩; have n1_ := Aside0.mk (below_step HB.out hb); clear HB; have HB := n1_; clear n1_ hb))
  go_ret
  exact ⟨rfl, HB.out⟩
theorem sextonlaw19_ShardNil.calls (a0_0 a0_1 : Int) (a0_2 : ByteArray) (a0_3 : Int) (r : Bool) (w : World) (hT : TabW w) (h : sextonlaw19_ShardNil.f a0_0 a0_1 a0_2 a0_3 = some r) : Calls Tryd.prog 7 #[.agg #[.int .i64 a0_0, .int .i64 a0_1, .string a0_2, .int .i64 a0_3]] w fun e w' => e = .returned (.bool r) ∧ Below w.heap.size w w' := by
  obtain rfl := Option.some.inj h
  exact shardNil_walk a0_0 a0_1 a0_2 a0_3 w hT
end Go.Proofs.YtoclacnhckpkfaaDoor.FA
