/- Written by hand (wip/tools/gen_inbox.py): inbox.New, the fixed case `two`, and the law of the nil inbox. -/
import Derived.Test.YthmeagbfoccnlaaHInbox
import Derived.OwnWalk
import Derived.Test.YthmeagbfoccnlaaWTab
import Derived.Test.YthmeagbfoccnlaaWNEv
import Derived.Test.YthmeagbfoccnlaaWApart
namespace Go.Proofs.Ythmeagbfoccnlaa.FA
open Go.Conc Go.RowKit Go.Proofs.YthmeagbfoccnlaaW.PrintWords Go.Proofs.YthmeagbfoccnlaaW.PrintLast Go.Proofs.YthmeagbfoccnlaaW.PrintMore Go.Proofs.Ythmeagbfoccnlaa.Hand Go.Proofs.Ythmeagbfoccnlaa.B
set_option linter.unusedVariables false
set_option linter.unusedSimpArgs false
theorem inbox_new_bad (n : Int) (h : n < 1 ∨ 256 < n) (w : World) : Calls Try.prog 6 #[.int .i64 n] w fun e w' => e = .returned (.tuple #[.pointer none, .int .i64 1]) ∧ w' = w := by
  by_cases h1 : n < 1
  · have b1 : decide (n < 1) = true := decide_eq_true h1
    clear h h1
    go_enter Try.func6, Try.ntmps6
    go_wp2
    go_ret2
    exact ⟨rfl, rfl⟩
  · have b1 : decide (n < 1) = false := decide_eq_false h1
    have b2 : decide (n > 256) = true := decide_eq_true (by omega)
    clear h h1
    go_enter Try.func6, Try.ntmps6
    go_wp2
    go_ret2
    exact ⟨rfl, rfl⟩
def inboxNew.T3 : Bool × List (List Nat × List Nat) := (true, [([], []), ([0], [0]), ([], []), ([2], [2]), ([1, 3], [1, 3]), ([4], [4]), ([5, 0, 1, 2, 3, 4, 5], [5]), ([6, 0, 1, 2, 3, 4, 5, 6], [])])
def inboxNew.B3 : List Nat := [0, 1, 0, 4, 15, 31, 63, 127]
theorem inboxNew.tab3 : rtab .any (opsOf Try.f6 3) = inboxNew.T3 := by kernel_rfl
theorem inboxNew.bits3 : waitsOk inboxNew.T3.2 inboxNew.B3 = true := by kernel_rfl
set_option maxHeartbeats 2000000 in
theorem inbox_new (n : Nat) (h0 : 1 ≤ n) (h : n ≤ 256) (w : World) : Calls Try.prog 6 #[.int .i64 (n : Int)] w fun e w' => ∃ g a b, e = .returned (.tuple #[.pointer (some ⟨g, 0, none⟩), .int .i64 0]) ∧ Box w' g a b n false [] [] ∧ w.heap.size ≤ g ∧ w.heap.size ≤ a ∧ w.heap.size ≤ b ∧ Below w.heap.size w w' := by
  have HB := Aside0.mk (Below.refl w.heap.size w)
  have b1 : decide ((n : Int) < 1) = false := decide_eq_false (by omega)
  have b2 : decide ((n : Int) > 256) = false := decide_eq_false (by omega)
  have hmc := mkChan n h
  clear h0 h
  go_enter Try.func6, Try.ntmps6
  go_wp2
  have n0_ := Aside0.mk (below_drew1 (by repeat (first | (with_reducible first | exact HB.out | apply below_alloc | apply pw_below_drewN | apply below_drew1) | exact HB.out)))
  clear HB
  have HB := n0_
  clear n0_
  refine start_ (n := 8) (S := fun w' => True) (ds := []) #[false, false, false, false, false, false, false, false] (by kernel_rfl) rfl rfl trivial (fun hHeld => ?_); refine with_tabW inboxNew.tab3 inboxNew.bits3 (fun HT_ HW_ => ?_)
  refine pure_ (i := 0) (N := some 10) (v := ?_) (a' := ?_) #[true, false, false, false, false, false, false, false] rfl rfl (any_of HT_.out (by kernel_rfl)) (fun _ _ _ h => h) (Or.inl ⟨by rfl, ?_⟩) ?_ ?_
  rotate_left
  · intro w'
    go_simp
    with_reducible rfl
  rotate_left
  · simp only [Act.put, List.setIfInBounds_toArray, List.set_cons_zero, List.set_cons_succ, i64_w, i32_w]
    rfl
  refine pure_ (i := 2) (N := some 12) (v := ?_) (a' := ?_) #[true, false, true, false, false, false, false, false] rfl rfl (any_of HT_.out (by kernel_rfl)) (fun _ _ _ h => h) (Or.inl ⟨by rfl, ?_⟩) ?_ ?_
  rotate_left
  · intro w'
    go_simp
    with_reducible rfl
  rotate_left
  · simp only [Act.put, List.setIfInBounds_toArray, List.set_cons_zero, List.set_cons_succ, i64_w, i32_w]
    rfl
  refine join_ (σ := Nat × Nat) 4 #[true, true, true, true, false, false, false, false] (fun (gb1, gb3) => [(11, .chan (some gb1)), (13, .chan (some gb3))]) (fun (gb1, gb3) w' => True ∧ Aside0 (w'.heap[gb1]? = some (.chan n #[] false 0 0 false)) ∧ Aside0 (w'.heap[gb3]? = some (.chan n #[] false 0 0 false)) ∧ Aside0 (w.heap.size ≤ gb1) ∧ Aside0 (w.heap.size ≤ gb3) ∧ Aside0 (gb1 ≠ gb3) ∧ Aside0 (gb3 ≠ gb1) ∧ Aside0 (Below w.heap.size w w')) ?_ ?_
  rotate_left
  · intro hJ1_3
    refine join_ (σ := Nat) 5 #[true, true, true, false, false, false, false, false] (fun gb1 => [(11, .chan (some gb1))]) (fun gb1 w' => True ∧ Aside0 (w'.heap[gb1]? = some (.chan n #[] false 0 0 false)) ∧ Aside0 (w.heap.size ≤ gb1) ∧ Aside0 (Below w.heap.size w w')) ?_ ?_
    rotate_left
    · intro hJ1
      refine join_ (σ := Nat) 5 #[true, false, true, true, false, false, false, false] (fun gb3 => [(13, .chan (some gb3))]) (fun gb3 w' => True ∧ Aside0 (w'.heap[gb3]? = some (.chan n #[] false 0 0 false)) ∧ Aside0 (w.heap.size ≤ gb3) ∧ Aside0 (Below w.heap.size w w')) ?_ ?_
      rotate_left
      · intro hJ3
        refine two_ (i := 1) (j := 3) (Ni := some 11) (Nj := some 13) #[true, true, true, false, false, false, false, false] #[true, false, true, true, false, false, false, false] rfl rfl rfl rfl (two_of HT_.out (by kernel_rfl)) (by decide) (by decide) (fun K hK => ?_) (fun K hK => ?_)
        · skip
          refine chan_step ?hg (N := 11) ?hd (cap := n) ?hr ?_
          (case hd => rfl)
          (case hg => rfl)
          (case hr => first | (go_simp; done) | (go_simp; rfl))
          intro gb1 hg w1_ hbox hb
          have nx_ := Aside0.mk hbox
          have ny_ := Aside0.mk (show w.heap.size ≤ gb1 from by rw [hg]; exact below_size (by repeat (first | (with_reducible first | exact HB.out | apply below_alloc | apply pw_below_drewN | apply below_drew1) | exact HB.out)))
          have n0_ := Aside0.mk (below_step (by repeat (first | (with_reducible first | exact HB.out | apply below_alloc | apply pw_below_drewN | apply below_drew1) | exact HB.out)) hb)
          clear HB
          have HB := n0_
          clear n0_
          have BK1 := nx_
          have GE1 := ny_
          clear hb hbox hg nx_ ny_ 
          refine hK.out _ _ trivial (fun hHeld => ?_)
          clear hK K
          refine norm_ (a' := ?_) ?_ ?_
          rotate_left
          · show Act.put _ (some 11) _ = _
            simp only [Act.put, List.setIfInBounds_toArray, List.set_cons_zero, List.set_cons_succ, i64_w, i32_w]
            rfl
          exact norm_ (by first | (simp only [putAll, Act.put, List.setIfInBounds_toArray, List.set_cons_zero, List.set_cons_succ]; done) | (simp only [putAll, Act.put, List.setIfInBounds_toArray, List.set_cons_zero, List.set_cons_succ]; rfl)) (hJ1 gb1 _ ⟨hHeld, BK1, GE1, HB⟩)
        · skip
          refine chan_step ?hg (N := 13) ?hd (cap := n) ?hr ?_
          (case hd => rfl)
          (case hg => rfl)
          (case hr => first | (go_simp; done) | (go_simp; rfl))
          intro gb3 hg w1_ hbox hb
          have nx_ := Aside0.mk hbox
          have ny_ := Aside0.mk (show w.heap.size ≤ gb3 from by rw [hg]; exact below_size (by repeat (first | (with_reducible first | exact HB.out | apply below_alloc | apply pw_below_drewN | apply below_drew1) | exact HB.out)))
          have n0_ := Aside0.mk (below_step (by repeat (first | (with_reducible first | exact HB.out | apply below_alloc | apply pw_below_drewN | apply below_drew1) | exact HB.out)) hb)
          clear HB
          have HB := n0_
          clear n0_
          have BK3 := nx_
          have GE3 := ny_
          clear hb hbox hg nx_ ny_ 
          refine hK.out _ _ trivial (fun hHeld => ?_)
          clear hK K
          refine norm_ (a' := ?_) ?_ ?_
          rotate_left
          · show Act.put _ (some 13) _ = _
            simp only [Act.put, List.setIfInBounds_toArray, List.set_cons_zero, List.set_cons_succ, i64_w, i32_w]
            rfl
          exact norm_ (by first | (simp only [putAll, Act.put, List.setIfInBounds_toArray, List.set_cons_zero, List.set_cons_succ]; done) | (simp only [putAll, Act.put, List.setIfInBounds_toArray, List.set_cons_zero, List.set_cons_succ]; rfl)) (hJ3 gb3 _ ⟨hHeld, BK3, GE3, HB⟩)
      · skip
        rintro gb3 w' ⟨hHeld, BK3, GE3, HB⟩
        refine norm_ (a' := ?_) ?_ ?_
        rotate_left
        · simp only [putAll, Act.put, List.setIfInBounds_toArray, List.set_cons_zero, List.set_cons_succ]
          rfl
        refine one_ (i := 1) (N := some 11) #[true, true, true, true, false, false, false, false] rfl rfl (one_of HT_.out (by kernel_rfl)) (by decide) (fun K hK => ?_)
        refine chan_step ?hg (N := 11) ?hd (cap := n) ?hr ?_
        (case hd => rfl)
        (case hg => rfl)
        (case hr => first | (go_simp; done) | (go_simp; rfl))
        intro gb1 hg w1_ hbox hb
        have nx_ := Aside0.mk hbox
        have ny_ := Aside0.mk (show w.heap.size ≤ gb1 from by rw [hg]; exact below_size (by repeat (first | (with_reducible first | exact HB.out | apply below_alloc | apply pw_below_drewN | apply below_drew1) | exact HB.out)))
        have x0_ := Aside0.mk (show gb3 ≠ gb1 from by rw [hg]; exact Nat.ne_of_lt (blk_lt (g := gb3) (o := .chan n #[] false 0 0 false) (by first | with_reducible exact BK3.out | ((with_reducible repeat (first | refine blk_drewN ?_ _ | refine blk_drew ?_ | refine blk_alloc ?_ _)); exact BK3.out))))
        have n0_ := Aside0.mk (blk_below (g := gb3) (o := .chan n #[] false 0 0 false) (by first | with_reducible exact BK3.out | ((with_reducible repeat (first | refine blk_drewN ?_ _ | refine blk_drew ?_ | refine blk_alloc ?_ _)); exact BK3.out)) hb)
        have n1_ := Aside0.mk (below_step (by repeat (first | (with_reducible first | exact HB.out | apply below_alloc | apply pw_below_drewN | apply below_drew1) | exact HB.out)) hb)
        clear BK3 HB
        have BK3 := n0_
        have HB := n1_
        clear n0_ n1_
        have BK1 := nx_
        have GE1 := ny_
        have NB3_1 := x0_
        have NB1_3 := Aside0.mk (Ne.symm x0_.out)
        have hn3_1 := x0_.out
        have hn1_3 := Ne.symm x0_.out
        clear hb hbox hg nx_ ny_ x0_
        refine hK.out _ _ trivial (fun hHeld => ?_)
        clear hK K
        refine norm_ (a' := ?_) ?_ ?_
        rotate_left
        · show Act.put _ (some 11) _ = _
          simp only [Act.put, List.setIfInBounds_toArray, List.set_cons_zero, List.set_cons_succ, i64_w, i32_w]
          rfl
        exact norm_ (by first | (simp only [putAll, Act.put, List.setIfInBounds_toArray, List.set_cons_zero, List.set_cons_succ]; done) | (simp only [putAll, Act.put, List.setIfInBounds_toArray, List.set_cons_zero, List.set_cons_succ]; rfl)) (hJ1_3 (gb1, gb3) _ ⟨hHeld, BK1, BK3, GE1, GE3, NB1_3, NB3_1, HB⟩)
    · skip
      rintro gb1 w' ⟨hHeld, BK1, GE1, HB⟩
      refine norm_ (a' := ?_) ?_ ?_
      rotate_left
      · simp only [putAll, Act.put, List.setIfInBounds_toArray, List.set_cons_zero, List.set_cons_succ]
        rfl
      refine one_ (i := 3) (N := some 13) #[true, true, true, true, false, false, false, false] rfl rfl (one_of HT_.out (by kernel_rfl)) (by decide) (fun K hK => ?_)
      refine chan_step ?hg (N := 13) ?hd (cap := n) ?hr ?_
      (case hd => rfl)
      (case hg => rfl)
      (case hr => first | (go_simp; done) | (go_simp; rfl))
      intro gb3 hg w1_ hbox hb
      have nx_ := Aside0.mk hbox
      have ny_ := Aside0.mk (show w.heap.size ≤ gb3 from by rw [hg]; exact below_size (by repeat (first | (with_reducible first | exact HB.out | apply below_alloc | apply pw_below_drewN | apply below_drew1) | exact HB.out)))
      have x0_ := Aside0.mk (show gb1 ≠ gb3 from by rw [hg]; exact Nat.ne_of_lt (blk_lt (g := gb1) (o := .chan n #[] false 0 0 false) (by first | with_reducible exact BK1.out | ((with_reducible repeat (first | refine blk_drewN ?_ _ | refine blk_drew ?_ | refine blk_alloc ?_ _)); exact BK1.out))))
      have n0_ := Aside0.mk (blk_below (g := gb1) (o := .chan n #[] false 0 0 false) (by first | with_reducible exact BK1.out | ((with_reducible repeat (first | refine blk_drewN ?_ _ | refine blk_drew ?_ | refine blk_alloc ?_ _)); exact BK1.out)) hb)
      have n1_ := Aside0.mk (below_step (by repeat (first | (with_reducible first | exact HB.out | apply below_alloc | apply pw_below_drewN | apply below_drew1) | exact HB.out)) hb)
      clear BK1 HB
      have BK1 := n0_
      have HB := n1_
      clear n0_ n1_
      have BK3 := nx_
      have GE3 := ny_
      have NB1_3 := x0_
      have NB3_1 := Aside0.mk (Ne.symm x0_.out)
      have hn1_3 := x0_.out
      have hn3_1 := Ne.symm x0_.out
      clear hb hbox hg nx_ ny_ x0_
      refine hK.out _ _ trivial (fun hHeld => ?_)
      clear hK K
      refine norm_ (a' := ?_) ?_ ?_
      rotate_left
      · show Act.put _ (some 13) _ = _
        simp only [Act.put, List.setIfInBounds_toArray, List.set_cons_zero, List.set_cons_succ, i64_w, i32_w]
        rfl
      exact norm_ (by first | (simp only [putAll, Act.put, List.setIfInBounds_toArray, List.set_cons_zero, List.set_cons_succ]; done) | (simp only [putAll, Act.put, List.setIfInBounds_toArray, List.set_cons_zero, List.set_cons_succ]; rfl)) (hJ1_3 (gb1, gb3) _ ⟨hHeld, BK1, BK3, GE1, GE3, NB1_3, NB3_1, HB⟩)
  rintro ⟨gb1, gb3⟩ w' ⟨hHeld, BK1, BK3, GE1, GE3, NB1_3, NB3_1, HB⟩
  have hn1_3 := NB1_3.out
  have hn3_1 := NB3_1.out
  refine norm_ (a' := ?_) ?_ ?_
  rotate_left
  · simp only [putAll, Act.put, List.setIfInBounds_toArray, List.set_cons_zero, List.set_cons_succ]
    rfl
  refine pure_ (i := 4) (N := some 14) (v := ?_) (a' := ?_) #[true, true, true, true, true, false, false, false] rfl rfl (any_of HT_.out (by kernel_rfl)) (fun _ _ _ h => h) (Or.inl ⟨by rfl, ?_⟩) ?_ ?_
  rotate_left
  · intro w'
    go_simp
    with_reducible rfl
  rotate_left
  · simp only [Act.put, List.setIfInBounds_toArray, List.set_cons_zero, List.set_cons_succ, i64_w, i32_w]
    rfl
  refine one_ (i := 5) (N := some 15) #[true, true, true, true, true, true, false, false] rfl rfl (one_of HT_.out (by kernel_rfl)) (by decide) (fun K hK => ?_)
  refine box_step ?hg (N := 15) ?hd (cs := #[.chan (some gb1), .chan (some gb3), .bool false]) (t := 49) ?hr ?_
  (case hd => rfl)
  (case hg => rfl)
  (case hr => first | (go_simp; done) | (go_simp; rfl))
  intro gb5 hg w1_ hbox hb
  have nx_ := Aside0.mk hbox
  have ny_ := Aside0.mk (show w.heap.size ≤ gb5 from by rw [hg]; exact below_size (by repeat (first | (with_reducible first | exact HB.out | apply below_alloc | apply pw_below_drewN | apply below_drew1) | exact HB.out)))
  have x0_ := Aside0.mk (show gb1 ≠ gb5 from by rw [hg]; exact Nat.ne_of_lt (blk_lt (g := gb1) (o := .chan n #[] false 0 0 false) (by first | with_reducible exact BK1.out | ((with_reducible repeat (first | refine blk_drewN ?_ _ | refine blk_drew ?_ | refine blk_alloc ?_ _)); exact BK1.out))))
  have x1_ := Aside0.mk (show gb3 ≠ gb5 from by rw [hg]; exact Nat.ne_of_lt (blk_lt (g := gb3) (o := .chan n #[] false 0 0 false) (by first | with_reducible exact BK3.out | ((with_reducible repeat (first | refine blk_drewN ?_ _ | refine blk_drew ?_ | refine blk_alloc ?_ _)); exact BK3.out))))
  have n0_ := Aside0.mk (blk_below (g := gb1) (o := .chan n #[] false 0 0 false) (by first | with_reducible exact BK1.out | ((with_reducible repeat (first | refine blk_drewN ?_ _ | refine blk_drew ?_ | refine blk_alloc ?_ _)); exact BK1.out)) hb)
  have n1_ := Aside0.mk (blk_below (g := gb3) (o := .chan n #[] false 0 0 false) (by first | with_reducible exact BK3.out | ((with_reducible repeat (first | refine blk_drewN ?_ _ | refine blk_drew ?_ | refine blk_alloc ?_ _)); exact BK3.out)) hb)
  have n2_ := Aside0.mk (below_step (by repeat (first | (with_reducible first | exact HB.out | apply below_alloc | apply pw_below_drewN | apply below_drew1) | exact HB.out)) hb)
  clear BK1 BK3 HB
  have BK1 := n0_
  have BK3 := n1_
  have HB := n2_
  clear n0_ n1_ n2_
  have BK5 := nx_
  have GE5 := ny_
  have NB1_5 := x0_
  have NB5_1 := Aside0.mk (Ne.symm x0_.out)
  have hn1_5 := x0_.out
  have hn5_1 := Ne.symm x0_.out
  have NB3_5 := x1_
  have NB5_3 := Aside0.mk (Ne.symm x1_.out)
  have hn3_5 := x1_.out
  have hn5_3 := Ne.symm x1_.out
  clear hb hbox hg nx_ ny_ x0_ x1_
  refine hK.out _ _ trivial (fun hHeld => ?_)
  clear hK K
  refine norm_ (a' := ?_) ?_ ?_
  rotate_left
  · show Act.put _ (some 15) _ = _
    simp only [Act.put, List.setIfInBounds_toArray, List.set_cons_zero, List.set_cons_succ, i64_w, i32_w]
    rfl
  refine pure_ (i := 6) (N := some 2) (v := ?_) (a' := ?_) #[true, true, true, true, true, true, true, false] rfl rfl (any_of HT_.out (by kernel_rfl)) (fun _ _ _ h => h) (Or.inl ⟨by rfl, ?_⟩) ?_ ?_
  rotate_left
  · intro w'
    go_simp
    with_reducible rfl
  rotate_left
  · simp only [Act.put, List.setIfInBounds_toArray, List.set_cons_zero, List.set_cons_succ, i64_w, i32_w]
    rfl
  refine pure_ (i := 7) (N := some 3) (v := ?_) (a' := ?_) #[true, true, true, true, true, true, true, true] rfl rfl (any_of HT_.out (by kernel_rfl)) (fun _ _ _ h => h) (Or.inl ⟨by rfl, ?_⟩) ?_ ?_
  rotate_left
  · intro w'
    go_simp
    with_reducible rfl
  rotate_left
  · simp only [Act.put, List.setIfInBounds_toArray, List.set_cons_zero, List.set_cons_succ, i64_w, i32_w]
    rfl
  refine done_ (done_of HT_.out (by kernel_rfl)) ?_
  go_wp2
  go_ret2
  exact ⟨gb5, gb1, gb3, rfl, ⟨BK5.out, ⟨0, 0, BK1.out⟩, ⟨0, 0, BK3.out⟩, NB1_3.out⟩, GE5.out, GE1.out, GE3.out, HB.out⟩
end Go.Proofs.Ythmeagbfoccnlaa.FA
