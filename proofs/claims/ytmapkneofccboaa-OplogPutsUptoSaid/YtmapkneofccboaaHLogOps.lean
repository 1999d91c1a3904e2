/- Written by hand (wip/tools/gen_log2.py): Get, Add, Trim of a log; what a nil log answers. -/
import Derived.Test.YtmapkneofccboaaHLog
namespace Go.Proofs.Ytmapkneofccboaa.FA
open Go.RowKit Go.Proofs.YtmapkneofccboaaW.PrintWords Go.Proofs.YtmapkneofccboaaW.PrintLast Go.Proofs.YtmapkneofccboaaW.PrintMore Go.Proofs.Ytmapkneofccboaa.Hand Go.Proofs.Ytmapkneofccboaa.B
set_option linter.unusedVariables false
set_option linter.unusedSimpArgs false
theorem log_place_nil (n : Int) (w : World) : Calls Try.prog 27 #[.pointer none, .int .i64 n] w fun e w' => e = .returned (.tuple #[.int .i64 0, .int .i64 6]) ∧ w' = w := by
  go_enter Try.func27, Try.ntmps27
  go_wp2
  go_ret2
  exact ⟨rfl, rfl⟩
theorem log_cut_nil (n : Int) (w : World) : Calls Try.prog 10 #[.pointer none, .int .i64 n] w fun e w' => e = .returned (.int .i64 6) ∧ w' = w := by
  go_enter Try.func10, Try.ntmps10
  go_wp2_with (first | (go_at_call 27; (with_reducible refine (log_place_nil _ _).mono ?_); rintro e_ w_ ⟨rfl, rfl⟩))
  go_ret
  exact ⟨rfl, rfl⟩
theorem log_trim_nil (n : Int) (w : World) : Calls Try.prog 11 #[.pointer none, .int .i64 n] w fun e w' => e = .returned (.int .i64 6) ∧ w' = w := by
  go_enter Try.func11, Try.ntmps11
  go_wp2
  go_ret
  exact ⟨rfl, rfl⟩
theorem log_put_nil (n : Int) (v : Value) (w : World) : Calls Try.prog 16 #[.pointer none, .int .i64 n, v] w fun e w' => e = .returned (.int .i64 6) ∧ w' = w := by
  go_enter Try.func16, Try.ntmps16
  go_wp2_with (first | (go_at_call 27; (with_reducible refine (log_place_nil _ _).mono ?_); rintro e_ w_ ⟨rfl, rfl⟩))
  go_ret
  exact ⟨rfl, rfl⟩
theorem log_behind_nil (n m : Int) (w : World) : Calls Try.prog 15 #[.pointer none, .int .i64 n, .int .i64 m] w fun e w' => e = .returned (.tuple #[.slice none 0 0, .int .i64 (if m < 0 then 1 else 6)]) ∧ w' = w := by
  by_cases h : m < 0
  · rw [if_pos h]
    have b : decide (m < 0) = true := decide_eq_true h
    clear h
    go_enter Try.func15, Try.ntmps15
    go_wp2
    go_ret2
    exact ⟨rfl, rfl⟩
  · rw [if_neg h]
    have b : decide (m < 0) = false := decide_eq_false h
    clear h
    go_enter Try.func15, Try.ntmps15
    go_wp2_with (first | (go_at_call 27; (with_reducible refine (log_place_nil _ _).mono ?_); rintro e_ w_ ⟨rfl, rfl⟩))
    go_ret2
    exact ⟨rfl, rfl⟩
theorem log_get_nil_neg (n : Int) (h : n < 1) (w : World) : Calls Try.prog 12 #[.pointer none, .int .i64 n] w fun e w' => e = .returned (.tuple #[.agg #[.int .i64 0, .int .i64 0, .int .i64 0, .string ⟨#[]⟩], .int .i64 6]) ∧ Below w.heap.size w w' := by
  have hu := Try.underlying30
  have HB := Aside0.mk (Below.refl w.heap.size w)
  have b0 : decide (n > 0) = false := decide_eq_false (by omega)
  have b1 : decide (n < 1) = true := decide_eq_true h
  clear h
  go_enter Try.func12, Try.ntmps12
  go_wp2_with (first | ((with_reducible refine gate_dst (N := 4) rfl ?_); refine box_event ?hg (N := 4) ?hd (cs := #[.int .i64 0, .int .i64 0, .int .i64 0, .string ⟨#[]⟩]) (t := 30) ?hr ?_; (case hd => rfl); (case hg => rfl); (case hr => first | (go_simp; done) | (go_simp; rfl)); intro gb4 hg w1_ hbox hb; have nx_ := Aside0.mk hbox; have ny_ := Aside0.mk (show w.heap.size ≤ gb4 from by rw [hg]; exact below_size (by repeat (first | (with_reducible first | exact HB.out | apply below_alloc | apply pw_below_drewN | apply below_drew1) | exact HB.out))); have n0_ := Aside0.mk (below_step (by repeat (first | (with_reducible first | exact HB.out | apply below_alloc | apply pw_below_drewN | apply below_drew1) | exact HB.out)) hb); clear HB; have HB := n0_; clear n0_; have BK4 := nx_; have GE4 := ny_; clear hb hbox hg nx_ ny_ ; have hz4_0 := (blk_cell BK4.out 0).trans rfl; have hf4_0 := blk_frozen BK4.out 0; have hz4_1 := (blk_cell BK4.out 1).trans rfl; have hf4_1 := blk_frozen BK4.out 1; have hz4_2 := (blk_cell BK4.out 2).trans rfl; have hf4_2 := blk_frozen BK4.out 2; have hz4_3 := (blk_cell BK4.out 3).trans rfl; have hf4_3 := blk_frozen BK4.out 3) | (go_at_call 14; (with_reducible refine (log_base_nil _).mono ?_); rintro e_ w_ ⟨rfl, rfl⟩) | (go_at_call 13; (with_reducible refine (log_last_nil _).mono ?_); rintro e_ w_ ⟨rfl, rfl⟩) | (go_at_call 22; (with_reducible refine (log_view_nil _).mono ?_); rintro e_ w_ ⟨rfl, rfl⟩))
  refine bodyPost_ret (results_ct rfl _ _ gb4 30 #[.int .i64 0, .int .i64 0, .int .i64 0, .string ⟨#[]⟩] (0, 0) _ rfl (by (with_reducible repeat (first | refine blk_drewN ?_ _ | refine blk_drew ?_ | refine blk_alloc ?_ _)); refine blk_put (cs := #[.int .i64 0, .int .i64 0, .int .i64 0, .string ⟨#[]⟩]) ?_ 3 _ rfl; (with_reducible repeat (first | refine blk_drewN ?_ _ | refine blk_drew ?_ | refine blk_alloc ?_ _)); refine blk_put (cs := #[.int .i64 0, .int .i64 0, .int .i64 0, .string ⟨#[]⟩]) ?_ 2 _ rfl; (with_reducible repeat (first | refine blk_drewN ?_ _ | refine blk_drew ?_ | refine blk_alloc ?_ _)); refine blk_put (cs := #[.int .i64 0, .int .i64 0, .int .i64 0, .string ⟨#[]⟩]) ?_ 1 _ rfl; (with_reducible repeat (first | refine blk_drewN ?_ _ | refine blk_drew ?_ | refine blk_alloc ?_ _)); refine blk_put (cs := #[.int .i64 0, .int .i64 0, .int .i64 0, .string ⟨#[]⟩]) ?_ 0 _ rfl; (with_reducible repeat (first | refine blk_drewN ?_ _ | refine blk_drew ?_ | refine blk_alloc ?_ _)); exact BK4.out) hu rfl (by kernel_rfl)) rfl ?_
  exact ⟨rfl, (by repeat (first | (with_reducible first | exact HB.out | apply below_alloc | apply pw_below_drewN | apply below_drew1 | refine below_set ?_ GE4.out) | exact HB.out))⟩
theorem log_get_nil_pos (n : Int) (h : ¬ n < 1) (w : World) : Calls Try.prog 12 #[.pointer none, .int .i64 n] w fun e w' => e = .returned (.tuple #[.agg #[.int .i64 0, .int .i64 0, .int .i64 0, .string ⟨#[]⟩], .int .i64 6]) ∧ Below w.heap.size w w' := by
  have hu := Try.underlying30
  have HB := Aside0.mk (Below.refl w.heap.size w)
  have b0 : decide (n > 0) = true := decide_eq_true (by omega)
  have b1 : decide (n < 1) = false := decide_eq_false h
  have b2 : decide (n ≤ 0) = false := decide_eq_false (by omega)
  clear h
  go_enter Try.func12, Try.ntmps12
  go_wp2_with (first | ((with_reducible refine gate_dst (N := 4) rfl ?_); refine box_event ?hg (N := 4) ?hd (cs := #[.int .i64 0, .int .i64 0, .int .i64 0, .string ⟨#[]⟩]) (t := 30) ?hr ?_; (case hd => rfl); (case hg => rfl); (case hr => first | (go_simp; done) | (go_simp; rfl)); intro gb4 hg w1_ hbox hb; have nx_ := Aside0.mk hbox; have ny_ := Aside0.mk (show w.heap.size ≤ gb4 from by rw [hg]; exact below_size (by repeat (first | (with_reducible first | exact HB.out | apply below_alloc | apply pw_below_drewN | apply below_drew1) | exact HB.out))); have n0_ := Aside0.mk (below_step (by repeat (first | (with_reducible first | exact HB.out | apply below_alloc | apply pw_below_drewN | apply below_drew1) | exact HB.out)) hb); clear HB; have HB := n0_; clear n0_; have BK4 := nx_; have GE4 := ny_; clear hb hbox hg nx_ ny_ ; have hz4_0 := (blk_cell BK4.out 0).trans rfl; have hf4_0 := blk_frozen BK4.out 0; have hz4_1 := (blk_cell BK4.out 1).trans rfl; have hf4_1 := blk_frozen BK4.out 1; have hz4_2 := (blk_cell BK4.out 2).trans rfl; have hf4_2 := blk_frozen BK4.out 2; have hz4_3 := (blk_cell BK4.out 3).trans rfl; have hf4_3 := blk_frozen BK4.out 3) | (go_at_call 14; (with_reducible refine (log_base_nil _).mono ?_); rintro e_ w_ ⟨rfl, rfl⟩) | (go_at_call 13; (with_reducible refine (log_last_nil _).mono ?_); rintro e_ w_ ⟨rfl, rfl⟩) | (go_at_call 22; (with_reducible refine (log_view_nil _).mono ?_); rintro e_ w_ ⟨rfl, rfl⟩))
  refine bodyPost_ret (results_ct rfl _ _ gb4 30 #[.int .i64 0, .int .i64 0, .int .i64 0, .string ⟨#[]⟩] (0, 0) _ rfl (by (with_reducible repeat (first | refine blk_drewN ?_ _ | refine blk_drew ?_ | refine blk_alloc ?_ _)); refine blk_put (cs := #[.int .i64 0, .int .i64 0, .int .i64 0, .string ⟨#[]⟩]) ?_ 3 _ rfl; (with_reducible repeat (first | refine blk_drewN ?_ _ | refine blk_drew ?_ | refine blk_alloc ?_ _)); refine blk_put (cs := #[.int .i64 0, .int .i64 0, .int .i64 0, .string ⟨#[]⟩]) ?_ 2 _ rfl; (with_reducible repeat (first | refine blk_drewN ?_ _ | refine blk_drew ?_ | refine blk_alloc ?_ _)); refine blk_put (cs := #[.int .i64 0, .int .i64 0, .int .i64 0, .string ⟨#[]⟩]) ?_ 1 _ rfl; (with_reducible repeat (first | refine blk_drewN ?_ _ | refine blk_drew ?_ | refine blk_alloc ?_ _)); refine blk_put (cs := #[.int .i64 0, .int .i64 0, .int .i64 0, .string ⟨#[]⟩]) ?_ 0 _ rfl; (with_reducible repeat (first | refine blk_drewN ?_ _ | refine blk_drew ?_ | refine blk_alloc ?_ _)); exact BK4.out) hu rfl (by kernel_rfl)) rfl ?_
  exact ⟨rfl, (by repeat (first | (with_reducible first | exact HB.out | apply below_alloc | apply pw_below_drewN | apply below_drew1 | refine below_set ?_ GE4.out) | exact HB.out))⟩
theorem log_get_nil (n : Int) (w : World) : Calls Try.prog 12 #[.pointer none, .int .i64 n] w fun e w' => e = .returned (.tuple #[.agg #[.int .i64 0, .int .i64 0, .int .i64 0, .string ⟨#[]⟩], .int .i64 6]) ∧ Below w.heap.size w w' := by
  by_cases h : n < 1
  · exact log_get_nil_neg n h w
  · exact log_get_nil_pos n h w
theorem log_get_gone {w : World} {N g : Nat} {base : Int} {l : List S30} {V : Value} {ok : Nat → Prop} (r : LBox 58 w N g base l V ok) (hx : 0 ≤ base ∧ base + (l.length : Int) ≤ 1099511627776) (n : Int) (h : 0 < n ∧ n ≤ base) : Calls Try.prog 12 #[.pointer (some ⟨g, 0, none⟩), .int .i64 n] w fun e w' => e = .returned (.tuple #[.agg #[.int .i64 0, .int .i64 0, .int .i64 0, .string ⟨#[]⟩], .int .i64 50]) ∧ Below w.heap.size w w' := by
  have hu := Try.underlying30
  have HB := Aside0.mk (Below.refl w.heap.size w)
  have HR := Aside0.mk r
  have HX := Aside0.mk hx
  have b0 : decide (n > 0) = true := decide_eq_true h.1
  have b2 : decide (n ≤ base) = true := decide_eq_true h.2
  clear h r hx
  go_enter Try.func12, Try.ntmps12
  go_wp2_with (first | ((with_reducible refine gate_dst (N := 4) rfl ?_); refine box_event ?hg (N := 4) ?hd (cs := #[.int .i64 0, .int .i64 0, .int .i64 0, .string ⟨#[]⟩]) (t := 30) ?hr ?_; (case hd => rfl); (case hg => rfl); (case hr => first | (go_simp; done) | (go_simp; rfl)); intro gb4 hg w1_ hbox hb; have nx_ := Aside0.mk hbox; have ny_ := Aside0.mk (show w.heap.size ≤ gb4 from by rw [hg]; exact below_size (by repeat (first | (with_reducible first | exact HB.out | apply below_alloc | apply pw_below_drewN | apply below_drew1) | exact HB.out))); have n0_ := Aside0.mk (below_step (by repeat (first | (with_reducible first | exact HB.out | apply below_alloc | apply pw_below_drewN | apply below_drew1) | exact HB.out)) hb); clear HB; have HB := n0_; clear n0_; have BK4 := nx_; have GE4 := ny_; clear hb hbox hg nx_ ny_ ; have hz4_0 := (blk_cell BK4.out 0).trans rfl; have hf4_0 := blk_frozen BK4.out 0; have hz4_1 := (blk_cell BK4.out 1).trans rfl; have hf4_1 := blk_frozen BK4.out 1; have hz4_2 := (blk_cell BK4.out 2).trans rfl; have hf4_2 := blk_frozen BK4.out 2; have hz4_3 := (blk_cell BK4.out 3).trans rfl; have hf4_3 := blk_frozen BK4.out 3) | (go_at_call 14; (with_reducible refine (log_base (HR.out.below HB.out)).mono ?_); rintro e_ w_ ⟨rfl, hw⟩; have hw_ := hw.symm; clear hw; subst hw_))
  refine bodyPost_ret (results_ct rfl _ _ gb4 30 #[.int .i64 0, .int .i64 0, .int .i64 0, .string ⟨#[]⟩] (0, 0) _ rfl (by (with_reducible repeat (first | refine blk_drewN ?_ _ | refine blk_drew ?_ | refine blk_alloc ?_ _)); refine blk_put (cs := #[.int .i64 0, .int .i64 0, .int .i64 0, .string ⟨#[]⟩]) ?_ 3 _ rfl; (with_reducible repeat (first | refine blk_drewN ?_ _ | refine blk_drew ?_ | refine blk_alloc ?_ _)); refine blk_put (cs := #[.int .i64 0, .int .i64 0, .int .i64 0, .string ⟨#[]⟩]) ?_ 2 _ rfl; (with_reducible repeat (first | refine blk_drewN ?_ _ | refine blk_drew ?_ | refine blk_alloc ?_ _)); refine blk_put (cs := #[.int .i64 0, .int .i64 0, .int .i64 0, .string ⟨#[]⟩]) ?_ 1 _ rfl; (with_reducible repeat (first | refine blk_drewN ?_ _ | refine blk_drew ?_ | refine blk_alloc ?_ _)); refine blk_put (cs := #[.int .i64 0, .int .i64 0, .int .i64 0, .string ⟨#[]⟩]) ?_ 0 _ rfl; (with_reducible repeat (first | refine blk_drewN ?_ _ | refine blk_drew ?_ | refine blk_alloc ?_ _)); exact BK4.out) hu rfl (by kernel_rfl)) rfl ?_
  exact ⟨rfl, (by repeat (first | (with_reducible first | exact HB.out | apply below_alloc | apply pw_below_drewN | apply below_drew1 | refine below_set ?_ GE4.out) | exact HB.out))⟩
theorem log_get_low {w : World} {N g : Nat} {base : Int} {l : List S30} {V : Value} {ok : Nat → Prop} (r : LBox 58 w N g base l V ok) (hx : 0 ≤ base ∧ base + (l.length : Int) ≤ 1099511627776) (n : Int) (h : n < 1) : Calls Try.prog 12 #[.pointer (some ⟨g, 0, none⟩), .int .i64 n] w fun e w' => e = .returned (.tuple #[.agg #[.int .i64 0, .int .i64 0, .int .i64 0, .string ⟨#[]⟩], .int .i64 6]) ∧ Below w.heap.size w w' := by
  have hu := Try.underlying30
  have HB := Aside0.mk (Below.refl w.heap.size w)
  have HR := Aside0.mk r
  have HX := Aside0.mk hx
  have b0 : decide (n > 0) = false := decide_eq_false (by omega)
  have b1 : decide (n < 1) = true := decide_eq_true h
  clear h r hx
  go_enter Try.func12, Try.ntmps12
  go_wp2_with (first | ((with_reducible refine gate_dst (N := 4) rfl ?_); refine box_event ?hg (N := 4) ?hd (cs := #[.int .i64 0, .int .i64 0, .int .i64 0, .string ⟨#[]⟩]) (t := 30) ?hr ?_; (case hd => rfl); (case hg => rfl); (case hr => first | (go_simp; done) | (go_simp; rfl)); intro gb4 hg w1_ hbox hb; have nx_ := Aside0.mk hbox; have ny_ := Aside0.mk (show w.heap.size ≤ gb4 from by rw [hg]; exact below_size (by repeat (first | (with_reducible first | exact HB.out | apply below_alloc | apply pw_below_drewN | apply below_drew1) | exact HB.out))); have n0_ := Aside0.mk (below_step (by repeat (first | (with_reducible first | exact HB.out | apply below_alloc | apply pw_below_drewN | apply below_drew1) | exact HB.out)) hb); clear HB; have HB := n0_; clear n0_; have BK4 := nx_; have GE4 := ny_; clear hb hbox hg nx_ ny_ ; have hz4_0 := (blk_cell BK4.out 0).trans rfl; have hf4_0 := blk_frozen BK4.out 0; have hz4_1 := (blk_cell BK4.out 1).trans rfl; have hf4_1 := blk_frozen BK4.out 1; have hz4_2 := (blk_cell BK4.out 2).trans rfl; have hf4_2 := blk_frozen BK4.out 2; have hz4_3 := (blk_cell BK4.out 3).trans rfl; have hf4_3 := blk_frozen BK4.out 3) | (go_at_call 14; (with_reducible refine (log_base (HR.out.below HB.out)).mono ?_); rintro e_ w_ ⟨rfl, hw⟩; have hw_ := hw.symm; clear hw; subst hw_))
  refine bodyPost_ret (results_ct rfl _ _ gb4 30 #[.int .i64 0, .int .i64 0, .int .i64 0, .string ⟨#[]⟩] (0, 0) _ rfl (by (with_reducible repeat (first | refine blk_drewN ?_ _ | refine blk_drew ?_ | refine blk_alloc ?_ _)); refine blk_put (cs := #[.int .i64 0, .int .i64 0, .int .i64 0, .string ⟨#[]⟩]) ?_ 3 _ rfl; (with_reducible repeat (first | refine blk_drewN ?_ _ | refine blk_drew ?_ | refine blk_alloc ?_ _)); refine blk_put (cs := #[.int .i64 0, .int .i64 0, .int .i64 0, .string ⟨#[]⟩]) ?_ 2 _ rfl; (with_reducible repeat (first | refine blk_drewN ?_ _ | refine blk_drew ?_ | refine blk_alloc ?_ _)); refine blk_put (cs := #[.int .i64 0, .int .i64 0, .int .i64 0, .string ⟨#[]⟩]) ?_ 1 _ rfl; (with_reducible repeat (first | refine blk_drewN ?_ _ | refine blk_drew ?_ | refine blk_alloc ?_ _)); refine blk_put (cs := #[.int .i64 0, .int .i64 0, .int .i64 0, .string ⟨#[]⟩]) ?_ 0 _ rfl; (with_reducible repeat (first | refine blk_drewN ?_ _ | refine blk_drew ?_ | refine blk_alloc ?_ _)); exact BK4.out) hu rfl (by kernel_rfl)) rfl ?_
  exact ⟨rfl, (by repeat (first | (with_reducible first | exact HB.out | apply below_alloc | apply pw_below_drewN | apply below_drew1 | refine below_set ?_ GE4.out) | exact HB.out))⟩
theorem log_get_high {w : World} {N g : Nat} {base : Int} {l : List S30} {V : Value} {ok : Nat → Prop} (r : LBox 58 w N g base l V ok) (hx : 0 ≤ base ∧ base + (l.length : Int) ≤ 1099511627776) (n : Int) (h0 : 0 < n) (h : base + (l.length : Int) < n) : Calls Try.prog 12 #[.pointer (some ⟨g, 0, none⟩), .int .i64 n] w fun e w' => e = .returned (.tuple #[.agg #[.int .i64 0, .int .i64 0, .int .i64 0, .string ⟨#[]⟩], .int .i64 6]) ∧ Below w.heap.size w w' := by
  have hu := Try.underlying30
  have HB := Aside0.mk (Below.refl w.heap.size w)
  have HR := Aside0.mk r
  have HX := Aside0.mk hx
  have b0 : decide (n > 0) = true := decide_eq_true h0
  have b1 : decide (n < 1) = false := decide_eq_false (by omega)
  have b2 : decide (n ≤ base) = false := decide_eq_false (by omega)
  have b3 : decide (n > base + (l.length : Int)) = true := decide_eq_true h
  clear h h0 r hx
  go_enter Try.func12, Try.ntmps12
  go_wp2_with (first | ((with_reducible refine gate_dst (N := 4) rfl ?_); refine box_event ?hg (N := 4) ?hd (cs := #[.int .i64 0, .int .i64 0, .int .i64 0, .string ⟨#[]⟩]) (t := 30) ?hr ?_; (case hd => rfl); (case hg => rfl); (case hr => first | (go_simp; done) | (go_simp; rfl)); intro gb4 hg w1_ hbox hb; have nx_ := Aside0.mk hbox; have ny_ := Aside0.mk (show w.heap.size ≤ gb4 from by rw [hg]; exact below_size (by repeat (first | (with_reducible first | exact HB.out | apply below_alloc | apply pw_below_drewN | apply below_drew1) | exact HB.out))); have n0_ := Aside0.mk (below_step (by repeat (first | (with_reducible first | exact HB.out | apply below_alloc | apply pw_below_drewN | apply below_drew1) | exact HB.out)) hb); clear HB; have HB := n0_; clear n0_; have BK4 := nx_; have GE4 := ny_; clear hb hbox hg nx_ ny_ ; have hz4_0 := (blk_cell BK4.out 0).trans rfl; have hf4_0 := blk_frozen BK4.out 0; have hz4_1 := (blk_cell BK4.out 1).trans rfl; have hf4_1 := blk_frozen BK4.out 1; have hz4_2 := (blk_cell BK4.out 2).trans rfl; have hf4_2 := blk_frozen BK4.out 2; have hz4_3 := (blk_cell BK4.out 3).trans rfl; have hf4_3 := blk_frozen BK4.out 3) | (go_at_call 14; (with_reducible refine (log_base (HR.out.below HB.out)).mono ?_); rintro e_ w_ ⟨rfl, hw⟩; have hw_ := hw.symm; clear hw; subst hw_) | (go_at_call 13; (with_reducible refine (log_last (HR.out.below HB.out) HX.out).mono ?_); rintro e_ w5_ ⟨rfl, rfl⟩; have n0_ := Aside0.mk (blk_drew BK4.out); have n1_ := Aside0.mk (below_step HB.out (below_drew (Below.refl _ _))); clear BK4 HB; (try clear hz4_0 hf4_0 hz4_1 hf4_1 hz4_2 hf4_2 hz4_3 hf4_3); have BK4 := Aside0.mk (show w1_.drew.heap[gb4]? = some (.cells #[.int .i64 0, .int .i64 0, .int .i64 0, .string ⟨#[]⟩] 30 (0, 0)) from n0_.out); have HB := n1_; clear n0_ n1_; generalize w1_.drew = w2_ at BK4 HB ⊢; have hz4_0 := (blk_cell BK4.out 0).trans rfl; have hf4_0 := blk_frozen BK4.out 0; have hz4_1 := (blk_cell BK4.out 1).trans rfl; have hf4_1 := blk_frozen BK4.out 1; have hz4_2 := (blk_cell BK4.out 2).trans rfl; have hf4_2 := blk_frozen BK4.out 2; have hz4_3 := (blk_cell BK4.out 3).trans rfl; have hf4_3 := blk_frozen BK4.out 3))
  refine bodyPost_ret (results_ct rfl _ _ gb4 30 #[.int .i64 0, .int .i64 0, .int .i64 0, .string ⟨#[]⟩] (0, 0) _ rfl (by (with_reducible repeat (first | refine blk_drewN ?_ _ | refine blk_drew ?_ | refine blk_alloc ?_ _)); refine blk_put (cs := #[.int .i64 0, .int .i64 0, .int .i64 0, .string ⟨#[]⟩]) ?_ 3 _ rfl; (with_reducible repeat (first | refine blk_drewN ?_ _ | refine blk_drew ?_ | refine blk_alloc ?_ _)); refine blk_put (cs := #[.int .i64 0, .int .i64 0, .int .i64 0, .string ⟨#[]⟩]) ?_ 2 _ rfl; (with_reducible repeat (first | refine blk_drewN ?_ _ | refine blk_drew ?_ | refine blk_alloc ?_ _)); refine blk_put (cs := #[.int .i64 0, .int .i64 0, .int .i64 0, .string ⟨#[]⟩]) ?_ 1 _ rfl; (with_reducible repeat (first | refine blk_drewN ?_ _ | refine blk_drew ?_ | refine blk_alloc ?_ _)); refine blk_put (cs := #[.int .i64 0, .int .i64 0, .int .i64 0, .string ⟨#[]⟩]) ?_ 0 _ rfl; (with_reducible repeat (first | refine blk_drewN ?_ _ | refine blk_drew ?_ | refine blk_alloc ?_ _)); exact BK4.out) hu rfl (by kernel_rfl)) rfl ?_
  exact ⟨rfl, (by repeat (first | (with_reducible first | exact HB.out | apply below_alloc | apply pw_below_drewN | apply below_drew1 | refine below_set ?_ GE4.out) | exact HB.out))⟩
def logGet.T5 : Bool × List (List Nat × List Nat) := (true, [([], []), ([0], [0]), ([1], [1]), ([2], [2]), ([], []), ([], []), ([5], [5]), ([6], [6]), ([7], [7]), ([4, 8], [4, 8]), ([9], [9]), ([3, 10], [3, 10]), ([11], [11]), ([12, 0, 1, 2, 3, 4, 5, 6, 7, 8, 9, 10, 11, 12], [12]), ([13, 0, 1, 2, 3, 4, 5, 6, 7, 8, 9, 10, 11, 12, 13], [])])
def logGet.B5 : List Nat := [0, 1, 3, 7, 0, 0, 32, 96, 224, 496, 1008, 2047, 4095, 8191, 16383]
theorem logGet.tab5 : rtab .any (opsOf Try.f12 5) = logGet.T5 := by kernel_rfl
theorem logGet.bits5 : waitsOk logGet.T5.2 logGet.B5 = true := by kernel_rfl
set_option maxHeartbeats 2000000 in
theorem log_get_some {w : World} {N g : Nat} {base : Int} {l : List S30} {V : Value} {ok : Nat → Prop} (r : LBox 58 w N g base l V ok) (hx : 0 ≤ base ∧ base + (l.length : Int) ≤ 1099511627776) (n : Int) (h : base < n ∧ n ≤ base + (l.length : Int)) (x : S30) (hg : rd_T30 l (n - base - 1) = x) : Calls Try.prog 12 #[.pointer (some ⟨g, 0, none⟩), .int .i64 n] w fun e w' => e = .returned (.tuple #[.agg #[.int .i64 x.f0, .int .i64 x.f1, .int .i64 x.f2, .string x.f3], .int .i64 0]) ∧ Below w.heap.size w w' := by
  have hu := Try.underlying30
  have HB := Aside0.mk (Below.refl w.heap.size w)
  obtain ⟨A, c, he, hlc⟩ := FR_slice r.hl
  subst he
  obtain ⟨ad, eA, _⟩ := at_T30 (FR_reads' r.hl).2.2 (n - base - 1) (by omega) (by omega)
  subst eA
  have HR := Aside0.mk r
  have HX := Aside0.mk hx
  have HG := Aside0.mk hg
  have HI := Aside0.mk (show 0 ≤ n - base - 1 ∧ n - base - 1 < (l.length : Int) by omega)
  obtain ⟨m, hm⟩ : ∃ m, m = l.length := ⟨_, rfl⟩
  obtain ⟨i, hi⟩ : ∃ i : Nat, i = (n - base - 1).toNat := ⟨_, rfl⟩
  have HM := Aside0.mk hm
  have HII := Aside0.mk hi
  have b0 : decide (n > 0) = true := decide_eq_true (by omega)
  have b1 : decide (n < 1) = false := decide_eq_false (by omega)
  have b2 : decide (n ≤ base) = false := decide_eq_false (by omega)
  have b3 : decide (n > base + (l.length : Int)) = false := decide_eq_false (by omega)
  have b4 : decide ((0 : Int) ≤ (i : Int)) = true := decide_eq_true (by omega)
  have b5 : decide ((i : Int) < (m : Int)) = true := decide_eq_true (by omega)
  have b6 : i < m := by omega
  have HW1 := Aside0.mk (show wrap64 (n - base) = n - base from wrap64_in (by omega) (by omega))
  have HW2 := Aside0.mk (show wrap64 (n - base - 1) = (i : Int) by rw [wrap64_in (by omega) (by omega)]; omega)
  clear r hx hg hm hi h hlc
  go_enter Try.func12, Try.ntmps12
  go_upto_region 5 with (first | ((with_reducible refine gate_dst (N := 4) rfl ?_); refine box_event ?hg (N := 4) ?hd (cs := #[.int .i64 0, .int .i64 0, .int .i64 0, .string ⟨#[]⟩]) (t := 30) ?hr ?_; (case hd => rfl); (case hg => rfl); (case hr => first | (go_simp; done) | (go_simp; rfl)); intro gb4 hg w1_ hbox hb; have nx_ := Aside0.mk hbox; have ny_ := Aside0.mk (show w.heap.size ≤ gb4 from by rw [hg]; exact below_size (by repeat (first | (with_reducible first | exact HB.out | apply below_alloc | apply pw_below_drewN | apply below_drew1) | exact HB.out))); have n0_ := Aside0.mk (below_step (by repeat (first | (with_reducible first | exact HB.out | apply below_alloc | apply pw_below_drewN | apply below_drew1) | exact HB.out)) hb); clear HB; have HB := n0_; clear n0_; have BK4 := nx_; have GE4 := ny_; clear hb hbox hg nx_ ny_ ; have hz4_0 := (blk_cell BK4.out 0).trans rfl; have hf4_0 := blk_frozen BK4.out 0; have hz4_1 := (blk_cell BK4.out 1).trans rfl; have hf4_1 := blk_frozen BK4.out 1; have hz4_2 := (blk_cell BK4.out 2).trans rfl; have hf4_2 := blk_frozen BK4.out 2; have hz4_3 := (blk_cell BK4.out 3).trans rfl; have hf4_3 := blk_frozen BK4.out 3) | (go_at_call 14; (with_reducible refine (log_base (HR.out.below HB.out)).mono ?_); rintro e_ w_ ⟨rfl, hw⟩; have hw_ := hw.symm; clear hw; subst hw_) | (go_at_call 13; (with_reducible refine (log_last (HR.out.below HB.out) HX.out).mono ?_); rintro e_ w5_ ⟨rfl, rfl⟩; have n0_ := Aside0.mk (blk_drew BK4.out); have n1_ := Aside0.mk (below_step HB.out (below_drew (Below.refl _ _))); clear BK4 HB; (try clear hz4_0 hf4_0 hz4_1 hf4_1 hz4_2 hf4_2 hz4_3 hf4_3); have BK4 := Aside0.mk (show w1_.drew.heap[gb4]? = some (.cells #[.int .i64 0, .int .i64 0, .int .i64 0, .string ⟨#[]⟩] 30 (0, 0)) from n0_.out); have HB := n1_; clear n0_ n1_; generalize w1_.drew = w2_ at BK4 HB ⊢; have hz4_0 := (blk_cell BK4.out 0).trans rfl; have hf4_0 := blk_frozen BK4.out 0; have hz4_1 := (blk_cell BK4.out 1).trans rfl; have hf4_1 := blk_frozen BK4.out 1; have hz4_2 := (blk_cell BK4.out 2).trans rfl; have hf4_2 := blk_frozen BK4.out 2; have hz4_3 := (blk_cell BK4.out 3).trans rfl; have hf4_3 := blk_frozen BK4.out 3))
  have hw1 := HW1.out
  have hw2 := HW2.out
  have HRd := Aside0.mk ((HR.out.below HB.out).below (below_drew (Below.refl w2_.heap.size w2_)))
  have HB4 := Aside0.mk (show w2_.drew.heap[gb4]? = some (.cells #[.int .i64 0, .int .i64 0, .int .i64 0, .string ⟨#[]⟩] 30 (0, 0)) from blk_drew BK4.out)
  have hq := (FR_reads' HRd.out.hl).2.2
  obtain ⟨ad', eA', hx0, hx1, hx2, hx3⟩ := at_T30 hq (n - base - 1) HI.out.1 HI.out.2
  obtain rfl : ad' = ad := by injection eA' with h; exact h.symm
  rw [HG.out, ← HII.out] at hx0 hx1 hx2 hx3
  have HX0 := Aside0.mk hx0
  have HX1 := Aside0.mk hx1
  have HX2 := Aside0.mk hx2
  have HX3 := Aside0.mk hx3
  have HBK := Aside0.mk (show w2_.drew.heap[g]? = some (.cells #[.int .i64 base, .slice (some ad') m c] 58 (0, 0)) from by rw [HM.out]; exact HRd.out.hb)
  have HBd := Aside0.mk (below_step HB.out (below_drew (Below.refl w2_.heap.size w2_)))
  clear HB BK4 hx0 hx1 hx2 hx3 hq eA' hz4_0 hf4_0 hz4_1 hf4_1 hz4_2 hf4_2 hz4_3 hf4_3
  refine start_ (n := 15) (S := fun w' => w'.cell? ⟨g, 0, none⟩ = some (.int .i64 base) ∧ w'.cell? ⟨g, 1, none⟩ = some (.slice (some ad') m c) ∧ w'.cell? (ad'.add (i * 4)) = some (.int .i64 x.f0) ∧ w'.cell? ⟨(ad'.add (i * 4)).block, (ad'.add (i * 4)).off + 1, none⟩ = some (.int .i64 x.f1) ∧ w'.cell? ⟨(ad'.add (i * 4)).block, (ad'.add (i * 4)).off + 2, none⟩ = some (.int .i64 x.f2) ∧ w'.cell? ⟨(ad'.add (i * 4)).block, (ad'.add (i * 4)).off + 3, none⟩ = some (.string x.f3)) (ds := [13]) #[false, false, false, false, false, false, false, false, false, false, false, false, false, false, false] (by kernel_rfl) rfl rfl ⟨(blk_cell HBK.out 0).trans rfl, (blk_cell HBK.out 1).trans rfl, HX0.out, HX1.out, HX2.out, HX3.out⟩ (fun hHeld => ?_); refine with_tabW logGet.tab5 logGet.bits5 (fun HT_ HW_ => ?_)
  generalize w2_.drew = w3_ at HRd HB4 HBK HX0 HX1 HX2 HX3 HBd hHeld ⊢
  refine pure_ (i := 0) (N := some 26) (v := ?_) (a' := ?_) #[true, false, false, false, false, false, false, false, false, false, false, false, false, false, false] rfl rfl (any_of HT_.out (by kernel_rfl)) (fun _ _ _ h => h) (Or.inl ⟨by rfl, ?_⟩) ?_ ?_
  rotate_left
  · intro w'
    go_simp
    with_reducible rfl
  rotate_left
  · simp only [Act.put, List.setIfInBounds_toArray, List.set_cons_zero, List.set_cons_succ, i64_w, i32_w]
    rfl
  refine pure_ (i := 1) (N := some 27) (v := ?_) (a' := ?_) #[true, true, false, false, false, false, false, false, false, false, false, false, false, false, false] rfl rfl (any_of HT_.out (by kernel_rfl)) (fun _ _ _ h => h) (Or.inl ⟨by rfl, ?_⟩) ?_ ?_
  rotate_left
  · intro w'
    go_simp
    with_reducible rfl
  rotate_left
  · simp only [Act.put, List.setIfInBounds_toArray, List.set_cons_zero, List.set_cons_succ, i64_w, i32_w]
    rfl
  refine pure_ (i := 2) (N := some 28) (v := ?_) (a' := ?_) #[true, true, true, false, false, false, false, false, false, false, false, false, false, false, false] rfl rfl (any_of HT_.out (by kernel_rfl)) (fun _ _ _ h => h) (Or.inl ⟨by rfl, ?_⟩) ?_ ?_
  rotate_left
  · intro w'
    go_simp
    with_reducible rfl
  rotate_left
  · simp only [Act.put, List.setIfInBounds_toArray, List.set_cons_zero, List.set_cons_succ, i64_w, i32_w]
    rfl
  refine pure_ (i := 4) (N := some 30) (v := ?_) (a' := ?_) #[true, true, true, false, true, false, false, false, false, false, false, false, false, false, false] rfl rfl (any_of HT_.out (by kernel_rfl)) (fun _ _ _ h => h) (Or.inl ⟨by rfl, ?_⟩) ?_ ?_
  rotate_left
  · intro w'
    go_simp
    with_reducible rfl
  rotate_left
  · simp only [Act.put, List.setIfInBounds_toArray, List.set_cons_zero, List.set_cons_succ, i64_w, i32_w]
    rfl
  refine pure_ (i := 5) (N := some 31) (v := ?_) (a' := ?_) #[true, true, true, false, true, true, false, false, false, false, false, false, false, false, false] rfl rfl (any_of HT_.out (by kernel_rfl)) (fun _ _ _ h => h) (Or.inl ⟨by rfl, ?_⟩) ?_ ?_
  rotate_left
  · intro w'
    go_simp
    with_reducible rfl
  rotate_left
  · simp only [Act.put, List.setIfInBounds_toArray, List.set_cons_zero, List.set_cons_succ, i64_w, i32_w]
    rfl
  refine pure_ (i := 6) (N := some 32) (v := ?_) (a' := ?_) #[true, true, true, false, true, true, true, false, false, false, false, false, false, false, false] rfl rfl (any_of HT_.out (by kernel_rfl)) (fun _ _ _ h => h) (Or.inl ⟨by rfl, ?_⟩) ?_ ?_
  rotate_left
  · intro w'
    go_simp
    with_reducible rfl
  rotate_left
  · simp only [Act.put, List.setIfInBounds_toArray, List.set_cons_zero, List.set_cons_succ, i64_w, i32_w]
    rfl
  refine pure_ (i := 7) (N := some 33) (v := ?_) (a' := ?_) #[true, true, true, false, true, true, true, true, false, false, false, false, false, false, false] rfl rfl (any_of HT_.out (by kernel_rfl)) (fun _ _ _ h => h) (Or.inl ⟨by rfl, ?_⟩) ?_ ?_
  rotate_left
  · intro w'
    go_simp
    with_reducible rfl
  rotate_left
  · simp only [Act.put, List.setIfInBounds_toArray, List.set_cons_zero, List.set_cons_succ, i64_w, i32_w]
    rfl
  refine take_ (i := 3) (N := some 29) (v := ?_) (a' := ?_) #[true, true, true, true, true, true, true, true, false, false, false, false, false, false, false] rfl rfl (take_ofW HT_.out HW_.out (by kernel_rfl)) (fun _ _ _ h => h) (Or.inl ⟨by rfl, ?_⟩) hHeld ?_ ?_
  rotate_left
  · rintro w' ⟨s0, s1, s2, s3, s4, s5⟩
    go_simp
    with_reducible rfl
  rotate_left
  · simp only [Act.put, List.setIfInBounds_toArray, List.set_cons_zero, List.set_cons_succ, i64_w, i32_w]
    rfl
  refine take_ (i := 8) (N := some 34) (v := ?_) (a' := ?_) #[true, true, true, true, true, true, true, true, true, false, false, false, false, false, false] rfl rfl (take_ofW HT_.out HW_.out (by kernel_rfl)) (fun _ _ _ h => h) (Or.inl ⟨by rfl, ?_⟩) hHeld ?_ ?_
  rotate_left
  · rintro w' ⟨s0, s1, s2, s3, s4, s5⟩
    go_simp
    with_reducible rfl
  rotate_left
  · simp only [Act.put, List.setIfInBounds_toArray, List.set_cons_zero, List.set_cons_succ, i64_w, i32_w]
    rfl
  refine pure_ (i := 9) (N := some 35) (v := ?_) (a' := ?_) #[true, true, true, true, true, true, true, true, true, true, false, false, false, false, false] rfl rfl (any_of HT_.out (by kernel_rfl)) (fun _ _ _ h => h) (Or.inl ⟨by rfl, ?_⟩) ?_ ?_
  rotate_left
  · intro w'
    go_simp
    with_reducible rfl
  rotate_left
  · simp only [Act.put, List.setIfInBounds_toArray, List.set_cons_zero, List.set_cons_succ, i64_w, i32_w]
    rfl
  refine pure_ (i := 10) (N := some 36) (v := ?_) (a' := ?_) #[true, true, true, true, true, true, true, true, true, true, true, false, false, false, false] rfl rfl (any_of HT_.out (by kernel_rfl)) (fun _ _ _ h => h) (Or.inl ⟨by rfl, ?_⟩) ?_ ?_
  rotate_left
  · intro w'
    go_simp
    with_reducible rfl
  rotate_left
  · simp only [Act.put, List.setIfInBounds_toArray, List.set_cons_zero, List.set_cons_succ, i64_w, i32_w]
    rfl
  refine pure_ (i := 11) (N := some 37) (v := ?_) (a' := ?_) #[true, true, true, true, true, true, true, true, true, true, true, true, false, false, false] rfl rfl (any_of HT_.out (by kernel_rfl)) (fun _ _ _ h => h) (Or.inl ⟨by rfl, ?_⟩) ?_ ?_
  rotate_left
  · intro w'
    go_simp
    with_reducible rfl
  rotate_left
  · simp only [Act.put, List.setIfInBounds_toArray, List.set_cons_zero, List.set_cons_succ, i64_w, i32_w]
    rfl
  refine take_ (i := 12) (N := some 38) (v := ?_) (a' := ?_) #[true, true, true, true, true, true, true, true, true, true, true, true, true, false, false] rfl rfl (take_ofW HT_.out HW_.out (by kernel_rfl)) (fun _ _ _ h => h) (Or.inl ⟨by rfl, ?_⟩) hHeld ?_ ?_
  rotate_left
  · rintro w' ⟨s0, s1, s2, s3, s4, s5⟩
    go_simp
    with_reducible rfl
  rotate_left
  · simp only [Act.put, List.setIfInBounds_toArray, List.set_cons_zero, List.set_cons_succ, i64_w, i32_w]
    rfl
  refine last_ (i := 13) (N := none) #[true, true, true, true, true, true, true, true, true, true, true, true, true, true, false] rfl rfl (one_of HT_.out (by kernel_rfl)) (by decide) (fun K hK => ?_)
  have hs0 := (blk_cell HB4.out 0).trans rfl
  have hs1 := (blk_cell HB4.out 1).trans rfl
  have hs2 := (blk_cell HB4.out 2).trans rfl
  have hs3 := (blk_cell HB4.out 3).trans rfl
  have ht0 := blk_frozen HB4.out 0
  have ht1 := blk_frozen HB4.out 1
  have ht2 := blk_frozen HB4.out 2
  have ht3 := blk_frozen HB4.out 3
  refine skip_ (w1 := ?_) (by rfl) rfl ?_ ?_
  rotate_left
  · go_simp
    rfl
  refine hK.out _ _ ?_
  clear hK K
  refine pure_ (i := 14) (N := some 5) (v := ?_) (a' := ?_) #[true, true, true, true, true, true, true, true, true, true, true, true, true, true, true] rfl rfl (any_of HT_.out (by kernel_rfl)) (fun _ _ _ h => h) (Or.inl ⟨by rfl, ?_⟩) ?_ ?_
  rotate_left
  · intro w'
    go_simp
    with_reducible rfl
  rotate_left
  · simp only [Act.put, List.setIfInBounds_toArray, List.set_cons_zero, List.set_cons_succ, i64_w, i32_w]
    rfl
  refine done_ (done_of HT_.out (by kernel_rfl)) ?_
  go_wp2
  refine bodyPost_ret (results_ct rfl _ _ gb4 30 #[.int .i64 x.f0, .int .i64 x.f1, .int .i64 x.f2, .string x.f3] (0, 0) _ rfl (by (with_reducible repeat (first | refine blk_drewN ?_ _ | refine blk_drew ?_ | refine blk_alloc ?_ _)); refine blk_put (cs := #[.int .i64 x.f0, .int .i64 x.f1, .int .i64 x.f2, .string ⟨#[]⟩]) ?_ 3 _ rfl; (with_reducible repeat (first | refine blk_drewN ?_ _ | refine blk_drew ?_ | refine blk_alloc ?_ _)); refine blk_put (cs := #[.int .i64 x.f0, .int .i64 x.f1, .int .i64 0, .string ⟨#[]⟩]) ?_ 2 _ rfl; (with_reducible repeat (first | refine blk_drewN ?_ _ | refine blk_drew ?_ | refine blk_alloc ?_ _)); refine blk_put (cs := #[.int .i64 x.f0, .int .i64 0, .int .i64 0, .string ⟨#[]⟩]) ?_ 1 _ rfl; (with_reducible repeat (first | refine blk_drewN ?_ _ | refine blk_drew ?_ | refine blk_alloc ?_ _)); refine blk_put (cs := #[.int .i64 0, .int .i64 0, .int .i64 0, .string ⟨#[]⟩]) ?_ 0 _ rfl; (with_reducible repeat (first | refine blk_drewN ?_ _ | refine blk_drew ?_ | refine blk_alloc ?_ _)); exact HB4.out) hu rfl (by kernel_rfl)) rfl ?_
  exact ⟨rfl, below_set (below_set (below_set (below_set HBd.out GE4.out) GE4.out) GE4.out) GE4.out⟩
end Go.Proofs.Ytmapkneofccboaa.FA
