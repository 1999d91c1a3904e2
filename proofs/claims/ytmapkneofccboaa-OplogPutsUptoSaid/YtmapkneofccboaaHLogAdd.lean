/- Written by hand (wip/tools/gen_log3.py): Add and Trim of a log. -/
import Derived.Test.YtmapkneofccboaaHLogOps
namespace Go.Proofs.Ytmapkneofccboaa.FA
open Go.RowKit Go.Proofs.YtmapkneofccboaaW.PrintWords Go.Proofs.YtmapkneofccboaaW.PrintLast Go.Proofs.YtmapkneofccboaaW.PrintMore Go.Proofs.Ytmapkneofccboaa.Hand Go.Proofs.Ytmapkneofccboaa.B
set_option linter.unusedVariables false
set_option linter.unusedSimpArgs false
theorem log_add_form (P : Option Addr) (x : S30) (h : rightB x = false) (w : World) : Calls Try.prog 9 #[.pointer P, .agg #[.int .i64 x.f0, .int .i64 x.f1, .int .i64 x.f2, .string x.f3]] w fun e w' => e = .returned (.tuple #[.int .i64 0, .int .i64 4]) ∧ Below w.heap.size w w' := by
  have HF := Aside0.mk (show oplog_right.f x.f0 x.f1 x.f2 x.f3 = some false by rw [right_is, h])
  have HB := Aside0.mk (Below.refl w.heap.size w)
  clear h
  go_enter Try.func9, Try.ntmps9
  go_wp2_with (first | ((with_reducible refine gate_dst (N := 3) rfl ?_); refine box_event ?hg (N := 3) ?hd (cs := #[.int .i64 x.f0, .int .i64 x.f1, .int .i64 x.f2, .string x.f3]) (t := 30) ?hr ?_; (case hd => rfl); (case hg => rfl); (case hr => first | (go_simp; done) | (go_simp; rfl)); intro gb3 hg w1_ hbox hb; have BK3 := Aside0.mk hbox; have GE3 := Aside0.mk (show w.heap.size ≤ gb3 from by rw [hg]; exact below_size HB.out); have n1_ := Aside0.mk (below_step HB.out hb); clear HB; have HB := n1_; clear n1_ hb hbox hg; have hz0 := (blk_cell BK3.out 0).trans rfl; have hz1 := (blk_cell BK3.out 1).trans rfl; have hz2 := (blk_cell BK3.out 2).trans rfl; have hz3 := (blk_cell BK3.out 3).trans rfl) | (go_at_call 26; (with_reducible refine (oplog_right.calls x.f0 x.f1 x.f2 x.f3 false _ HF.out).mono ?_); rintro e_ w2_ ⟨rfl, hb⟩; have n0_ := Aside0.mk (blk_below BK3.out hb); have n1_ := Aside0.mk (below_step HB.out hb); clear BK3 HB hz0 hz1 hz2 hz3; have BK3 := Aside0.mk (show w2_.heap[gb3]? = some (.cells #[.int .i64 x.f0, .int .i64 x.f1, .int .i64 x.f2, .string x.f3] 30 (0, 0)) from n0_.out); have HB := n1_; clear n0_ n1_ hb; have hz0 := (blk_cell BK3.out 0).trans rfl; have hz1 := (blk_cell BK3.out 1).trans rfl; have hz2 := (blk_cell BK3.out 2).trans rfl; have hz3 := (blk_cell BK3.out 3).trans rfl))
  go_ret2
  exact ⟨rfl, HB.out⟩
def logAdd.T3 : Bool × List (List Nat × List Nat) := (true, [([], []), ([0], [0]), ([], []), ([2], [2]), ([1, 3], [1, 3]), ([4, 3], [4])])
def logAdd.B3 : List Nat := [0, 1, 0, 4, 15, 31]
theorem logAdd.tab3 : rtab .any (opsOf Try.f9 3) = logAdd.T3 := by kernel_rfl
theorem logAdd.bits3 : waitsOk logAdd.T3.2 logAdd.B3 = true := by kernel_rfl
def logAdd.T7 : Bool × List (List Nat × List Nat) := (true, [([], []), ([], []), ([1], [1]), ([2], [2]), ([3], [3]), ([], []), ([5], [5]), ([4, 6], [4, 6]), ([0, 0, 1, 2, 3, 4, 5, 6, 7], [0]), ([8, 0, 1, 2, 3, 4, 5, 6, 7], [8]), ([9, 7, 7, 0, 1, 2, 3, 4, 5, 6, 7], [7, 9])])
def logAdd.B7 : List Nat := [0, 0, 2, 6, 14, 0, 32, 126, 255, 511, 1023]
theorem logAdd.tab7 : rtab .any (opsOf Try.f9 7) = logAdd.T7 := by kernel_rfl
theorem logAdd.bits7 : waitsOk logAdd.T7.2 logAdd.B7 = true := by kernel_rfl
set_option maxHeartbeats 2000000 in
theorem log_add_nil (x : S30) (h : rightB x = true) (w : World) : Calls Try.prog 9 #[.pointer none, .agg #[.int .i64 x.f0, .int .i64 x.f1, .int .i64 x.f2, .string x.f3]] w fun e w' => e = .returned (.tuple #[.int .i64 0, .int .i64 5]) ∧ Below w.heap.size w w' := by
  have HF := Aside0.mk (show oplog_right.f x.f0 x.f1 x.f2 x.f3 = some true by rw [right_is, h])
  have hv : decide (x.f0 < 0) = false := decide_eq_false (by unfold rightB at h; rw [decide_eq_true_eq] at h; omega)
  have HB := Aside0.mk (Below.refl w.heap.size w)
  clear h
  go_enter Try.func9, Try.ntmps9
  go_upto_region 3 with (first | ((with_reducible refine gate_dst (N := 3) rfl ?_); refine box_event ?hg (N := 3) ?hd (cs := #[.int .i64 x.f0, .int .i64 x.f1, .int .i64 x.f2, .string x.f3]) (t := 30) ?hr ?_; (case hd => rfl); (case hg => rfl); (case hr => first | (go_simp; done) | (go_simp; rfl)); intro gb3 hg w1_ hbox hb; have BK3 := Aside0.mk hbox; have GE3 := Aside0.mk (show w.heap.size ≤ gb3 from by rw [hg]; exact below_size HB.out); have n1_ := Aside0.mk (below_step HB.out hb); clear HB; have HB := n1_; clear n1_ hb hbox hg; have hz0 := (blk_cell BK3.out 0).trans rfl; have hz1 := (blk_cell BK3.out 1).trans rfl; have hz2 := (blk_cell BK3.out 2).trans rfl; have hz3 := (blk_cell BK3.out 3).trans rfl) | (go_at_call 26; (with_reducible refine (oplog_right.calls x.f0 x.f1 x.f2 x.f3 true _ HF.out).mono ?_); rintro e_ w2_ ⟨rfl, hb⟩; have n0_ := Aside0.mk (blk_below BK3.out hb); have n1_ := Aside0.mk (below_step HB.out hb); clear BK3 HB hz0 hz1 hz2 hz3; have BK3 := Aside0.mk (show w2_.heap[gb3]? = some (.cells #[.int .i64 x.f0, .int .i64 x.f1, .int .i64 x.f2, .string x.f3] 30 (0, 0)) from n0_.out); have HB := n1_; clear n0_ n1_ hb; have hz0 := (blk_cell BK3.out 0).trans rfl; have hz1 := (blk_cell BK3.out 1).trans rfl; have hz2 := (blk_cell BK3.out 2).trans rfl; have hz3 := (blk_cell BK3.out 3).trans rfl))
  have n0_ := Aside0.mk (show w2_.drew.heap[gb3]? = some (.cells #[.int .i64 x.f0, .int .i64 x.f1, .int .i64 x.f2, .string x.f3] 30 (0, 0)) from blk_drew BK3.out)
  have n1_ := Aside0.mk (below_step HB.out (below_drew (Below.refl w2_.heap.size w2_)))
  clear BK3 HB hz0 hz1 hz2 hz3
  have BK3 := n0_
  have HB := n1_
  clear n0_ n1_
  refine start_ (n := 6) (S := fun w' => w'.cell? ⟨gb3, 0, none⟩ = some (.int .i64 x.f0)) (ds := []) #[false, false, false, false, false, false] (by kernel_rfl) rfl rfl ((blk_cell BK3.out 0).trans rfl) (fun hHeld => ?_)
  refine pure_ (i := 0) (N := some 11) (v := ?_) (a' := ?_) #[true, false, false, false, false, false] rfl rfl (by kernel_rfl) (fun _ _ _ h => h) (Or.inl ⟨by rfl, ?_⟩) ?_ ?_
  rotate_left
  · intro w'
    go_simp
    with_reducible rfl
  rotate_left
  · simp only [Act.put, List.setIfInBounds_toArray, List.set_cons_zero, List.set_cons_succ, i64_w, i32_w]
    rfl
  refine pure_ (i := 2) (N := some 13) (v := ?_) (a' := ?_) #[true, false, true, false, false, false] rfl rfl (by kernel_rfl) (fun _ _ _ h => h) (Or.inl ⟨by rfl, ?_⟩) ?_ ?_
  rotate_left
  · intro w'
    go_simp
    with_reducible rfl
  rotate_left
  · simp only [Act.put, List.setIfInBounds_toArray, List.set_cons_zero, List.set_cons_succ, i64_w, i32_w]
    rfl
  refine take_ (i := 1) (N := some 12) (v := ?_) (a' := ?_) #[true, true, true, false, false, false] rfl rfl (by kernel_rfl) (fun _ _ _ h => h) (Or.inl ⟨by rfl, ?_⟩) hHeld ?_ ?_
  rotate_left
  · intro w' s0
    go_simp
    with_reducible rfl
  rotate_left
  · simp only [Act.put, List.setIfInBounds_toArray, List.set_cons_zero, List.set_cons_succ, i64_w, i32_w]
    rfl
  refine one_ (i := 3) (N := some 14) #[true, true, true, true, false, false] rfl rfl (by kernel_rfl) (by decide) (fun K hK => ?_)
  refine goes_ Try.func22 (by kernel_rfl) rfl #[.pointer none] (by rfl) rfl rfl (by (try simp only [List.map_toArray, List.map_cons, List.map_nil]); first | done | rfl) ?_
  refine (log_view_nil _).mono ?_
  rintro e w4_ ⟨rfl, rfl⟩
  refine ⟨_, rfl, ?_⟩
  refine hK.out _ _ ((blk_cell BK3.out 0).trans rfl) (fun hHeld => ?_)
  clear hK K
  refine norm_ (a' := ?_) ?_ ?_
  rotate_left
  · show Act.put _ (some 14) _ = _
    simp only [Act.put, List.setIfInBounds_toArray, List.set_cons_zero, List.set_cons_succ, i64_w, i32_w]
    rfl
  refine pure_ (i := 4) (N := some 15) (v := ?_) (a' := ?_) #[true, true, true, true, true, false] rfl rfl (by kernel_rfl) (fun _ _ _ h => h) (Or.inl ⟨by rfl, ?_⟩) ?_ ?_
  rotate_left
  · intro w'
    go_simp
    with_reducible rfl
  rotate_left
  · simp only [Act.put, List.setIfInBounds_toArray, List.set_cons_zero, List.set_cons_succ, i64_w, i32_w]
    rfl
  refine pure_ (i := 5) (N := some 10) (v := ?_) (a' := ?_) #[true, true, true, true, true, true] rfl rfl (by kernel_rfl) (fun _ _ _ h => h) (Or.inl ⟨by rfl, ?_⟩) ?_ ?_
  rotate_left
  · intro w'
    go_simp
    with_reducible rfl
  rotate_left
  · simp only [Act.put, List.setIfInBounds_toArray, List.set_cons_zero, List.set_cons_succ, i64_w, i32_w]
    rfl
  refine done_ (by kernel_rfl) ?_
  go_wp2
  go_ret2
  exact ⟨rfl, HB.out⟩
set_option maxHeartbeats 8000000 in
set_option maxRecDepth 100000 in
theorem log_add_ok {w : World} {N g : Nat} {base : Int} {l : List S30} {V : Value} {ok : Nat → Prop} (r : LBox 58 w N g base l V ok) (hf : ∀ k, w.heap.size ≤ k → ok k) (hx : 0 ≤ base ∧ base + (l.length : Int) ≤ 1099511627776) (hlen : l.length ≤ 256) (x : S30) (h : rightB x = true) (hv : ¬ x.f0 < viewV l) (h256 : l.length ≠ 256) (hM : base + (l.length : Int) ≠ 1099511627776) : Calls Try.prog 9 #[.pointer (some ⟨g, 0, none⟩), .agg #[.int .i64 x.f0, .int .i64 x.f1, .int .i64 x.f2, .string x.f3]] w fun e w' => ∃ V', e = .returned (.tuple #[.int .i64 (base + ((l.length + 1 : Nat) : Int)), .int .i64 0]) ∧ LBox 58 w' N g base (l ++ [x]) V' ok ∧ LMoves N g V V' w w' := by
  have HF := Aside0.mk (show oplog_right.f x.f0 x.f1 x.f2 x.f3 = some true by rw [right_is, h])
  obtain ⟨vv, hvv⟩ : ∃ vv, viewV l = vv := ⟨_, rfl⟩
  rw [hvv] at hv
  have HVV := Aside0.mk hvv
  have bv : decide (x.f0 < vv) = false := decide_eq_false hv
  have HB := Aside0.mk (Below.refl w.heap.size w)
  have HR := Aside0.mk r
  have HFr := Aside0.mk hf
  have HX := Aside0.mk hx
  have HL1 := Aside0.mk (show l.length ≤ 1000000 by omega)
  have HLM := Aside0.mk (show base + ((l.length + 1 : Nat) : Int) ≤ 1099511627776 by omega)
  obtain ⟨A, c, he, hc⟩ := FR_slice r.hl
  subst he
  have b256 : ((l.length : Int) == 256) = false := beq_eq_false_iff_ne.mpr (by omega)
  have bM : (base + (l.length : Int) == 1099511627776) = false := beq_eq_false_iff_ne.mpr hM
  clear r hf hx hlen h hv hvv hc h256 hM
  go_enter Try.func9, Try.ntmps9
  go_upto_region 3 with (first | ((with_reducible refine gate_dst (N := 3) rfl ?_); refine box_event ?hg (N := 3) ?hd (cs := #[.int .i64 x.f0, .int .i64 x.f1, .int .i64 x.f2, .string x.f3]) (t := 30) ?hr ?_; (case hd => rfl); (case hg => rfl); (case hr => first | (go_simp; done) | (go_simp; rfl)); intro gb3 hg w1_ hbox hb; have BK3 := Aside0.mk hbox; have GE3 := Aside0.mk (show w.heap.size ≤ gb3 from by rw [hg]; exact below_size HB.out); have n1_ := Aside0.mk (below_step HB.out hb); clear HB; have HB := n1_; clear n1_ hb hbox hg; have hz0 := (blk_cell BK3.out 0).trans rfl; have hz1 := (blk_cell BK3.out 1).trans rfl; have hz2 := (blk_cell BK3.out 2).trans rfl; have hz3 := (blk_cell BK3.out 3).trans rfl) | (go_at_call 26; (with_reducible refine (oplog_right.calls x.f0 x.f1 x.f2 x.f3 true _ HF.out).mono ?_); rintro e_ w2_ ⟨rfl, hb⟩; have n0_ := Aside0.mk (blk_below BK3.out hb); have n1_ := Aside0.mk (below_step HB.out hb); clear BK3 HB hz0 hz1 hz2 hz3; have BK3 := Aside0.mk (show w2_.heap[gb3]? = some (.cells #[.int .i64 x.f0, .int .i64 x.f1, .int .i64 x.f2, .string x.f3] 30 (0, 0)) from n0_.out); have HB := n1_; clear n0_ n1_ hb; have hz0 := (blk_cell BK3.out 0).trans rfl; have hz1 := (blk_cell BK3.out 1).trans rfl; have hz2 := (blk_cell BK3.out 2).trans rfl; have hz3 := (blk_cell BK3.out 3).trans rfl))
  have n0_ := Aside0.mk (show w2_.drew.heap[gb3]? = some (.cells #[.int .i64 x.f0, .int .i64 x.f1, .int .i64 x.f2, .string x.f3] 30 (0, 0)) from blk_drew BK3.out)
  have n1_ := Aside0.mk (below_step HB.out (below_drew (Below.refl w2_.heap.size w2_)))
  clear BK3 HB hz0 hz1 hz2 hz3
  have BK3 := n0_
  have HB := n1_
  clear n0_ n1_
  refine start_ (n := 6) (S := fun w' => w'.cell? ⟨gb3, 0, none⟩ = some (.int .i64 x.f0)) (ds := []) #[false, false, false, false, false, false] (by kernel_rfl) rfl rfl ((blk_cell BK3.out 0).trans rfl) (fun hHeld => ?_)
  generalize w2_.drew = w3_ at BK3 HB hHeld ⊢
  refine pure_ (i := 0) (N := some 11) (v := ?_) (a' := ?_) #[true, false, false, false, false, false] rfl rfl (by kernel_rfl) (fun _ _ _ h => h) (Or.inl ⟨by rfl, ?_⟩) ?_ ?_
  rotate_left
  · intro w'
    go_simp
    with_reducible rfl
  rotate_left
  · simp only [Act.put, List.setIfInBounds_toArray, List.set_cons_zero, List.set_cons_succ, i64_w, i32_w]
    rfl
  refine pure_ (i := 2) (N := some 13) (v := ?_) (a' := ?_) #[true, false, true, false, false, false] rfl rfl (by kernel_rfl) (fun _ _ _ h => h) (Or.inl ⟨by rfl, ?_⟩) ?_ ?_
  rotate_left
  · intro w'
    go_simp
    with_reducible rfl
  rotate_left
  · simp only [Act.put, List.setIfInBounds_toArray, List.set_cons_zero, List.set_cons_succ, i64_w, i32_w]
    rfl
  refine take_ (i := 1) (N := some 12) (v := ?_) (a' := ?_) #[true, true, true, false, false, false] rfl rfl (by kernel_rfl) (fun _ _ _ h => h) (Or.inl ⟨by rfl, ?_⟩) hHeld ?_ ?_
  rotate_left
  · intro w' s0
    go_simp
    with_reducible rfl
  rotate_left
  · simp only [Act.put, List.setIfInBounds_toArray, List.set_cons_zero, List.set_cons_succ, i64_w, i32_w]
    rfl
  refine one_ (i := 3) (N := some 14) #[true, true, true, true, false, false] rfl rfl (by kernel_rfl) (by decide) (fun K hK => ?_)
  refine goes_ Try.func22 (by kernel_rfl) rfl #[.pointer (some ⟨g, 0, none⟩)] (by rfl) rfl rfl (by (try simp only [List.map_toArray, List.map_cons, List.map_nil]); first | done | rfl) ?_
  refine (log_view (HR.out.below HB.out) HL1.out).mono ?_
  rintro e w4_ ⟨rfl, hb⟩
  refine ⟨_, rfl, ?_⟩
  rw [HVV.out]
  have n0_ := Aside0.mk (show w4_.heap[gb3]? = some (.cells #[.int .i64 x.f0, .int .i64 x.f1, .int .i64 x.f2, .string x.f3] 30 (0, 0)) from blk_below BK3.out hb)
  have n1_ := Aside0.mk (below_step HB.out hb)
  clear BK3 HB
  have BK3 := n0_
  have HB := n1_
  clear n0_ n1_
  clear hb
  refine hK.out _ _ ((blk_cell BK3.out 0).trans rfl) (fun hHeld => ?_)
  clear hK K
  refine norm_ (a' := ?_) ?_ ?_
  rotate_left
  · show Act.put _ (some 14) _ = _
    simp only [Act.put, List.setIfInBounds_toArray, List.set_cons_zero, List.set_cons_succ, i64_w, i32_w]
    rfl
  refine pure_ (i := 4) (N := some 15) (v := ?_) (a' := ?_) #[true, true, true, true, true, false] rfl rfl (by kernel_rfl) (fun _ _ _ h => h) (Or.inl ⟨by rfl, ?_⟩) ?_ ?_
  rotate_left
  · intro w'
    go_simp
    with_reducible rfl
  rotate_left
  · simp only [Act.put, List.setIfInBounds_toArray, List.set_cons_zero, List.set_cons_succ, i64_w, i32_w]
    rfl
  refine pure_ (i := 5) (N := some 10) (v := ?_) (a' := ?_) #[true, true, true, true, true, true] rfl rfl (by kernel_rfl) (fun _ _ _ h => h) (Or.inl ⟨by rfl, ?_⟩) ?_ ?_
  rotate_left
  · intro w'
    go_simp
    with_reducible rfl
  rotate_left
  · simp only [Act.put, List.setIfInBounds_toArray, List.set_cons_zero, List.set_cons_succ, i64_w, i32_w]
    rfl
  refine done_ (by kernel_rfl) ?_
  have hg1 := (blk_cell (HR.out.below HB.out).hb 1).trans rfl
  go_upto_region 7 with (first | (go_at_call 13; (with_reducible refine (log_last (HR.out.below HB.out) HX.out).mono ?_); rintro e_ w5_ ⟨rfl, rfl⟩; have n0_ := Aside0.mk (show w4_.drew.heap[gb3]? = some (.cells #[.int .i64 x.f0, .int .i64 x.f1, .int .i64 x.f2, .string x.f3] 30 (0, 0)) from blk_drew BK3.out); have n1_ := Aside0.mk (below_step HB.out (below_drew (Below.refl _ _))); clear BK3 HB hg1; have BK3 := n0_; have HB := n1_; clear n0_ n1_; generalize w4_.drew = w6_ at BK3 HB ⊢; have hg1 := (blk_cell (HR.out.below HB.out).hb 1).trans rfl))
  clear hg1
  have HR6 := Aside0.mk (HR.out.below HB.out)
  have HR7 := Aside0.mk (HR6.out.below (below_drew (Below.refl w6_.heap.size w6_)))
  have n0_ := Aside0.mk (show w6_.drew.heap[gb3]? = some (.cells #[.int .i64 x.f0, .int .i64 x.f1, .int .i64 x.f2, .string x.f3] 30 (0, 0)) from blk_drew BK3.out)
  have HM7 := Aside0.mk (LMoves.of_below (N := N) (g := g) (V := .slice A l.length c) (below_step HB.out (below_drew (Below.refl w6_.heap.size w6_))) HR.out.hs)
  have HS7 := Aside0.mk (show w.heap.size ≤ w6_.drew.heap.size from (below_step HB.out (below_drew (Below.refl w6_.heap.size w6_))).size)
  have NE3 := Aside0.mk (show some gb3 ≠ (Value.slice A l.length c).ownBlock from fun he => by have := FR_lt HR.out.hl gb3 he.symm; have := GE3.out; omega)
  clear BK3 HB HR6
  have BK3 := n0_
  clear n0_
  refine start_ (n := 11) (S := fun w' => w'.cell? ⟨g, 1, none⟩ = some (.slice A l.length c) ∧ w'.cell? ⟨gb3, 0, none⟩ = some (.int .i64 x.f0) ∧ w'.cell? ⟨gb3, 1, none⟩ = some (.int .i64 x.f1) ∧ w'.cell? ⟨gb3, 2, none⟩ = some (.int .i64 x.f2) ∧ w'.cell? ⟨gb3, 3, none⟩ = some (.string x.f3)) (ds := [10]) #[false, false, false, false, false, false, false, false, false, false, false] (by kernel_rfl) rfl rfl ⟨(blk_cell HR7.out.hb 1).trans rfl, (blk_cell BK3.out 0).trans rfl, (blk_cell BK3.out 1).trans rfl, (blk_cell BK3.out 2).trans rfl, (blk_cell BK3.out 3).trans rfl⟩ (fun hHeld => ?_); refine with_tabW logAdd.tab7 logAdd.bits7 (fun HT_ HW_ => ?_)
  generalize w6_.drew = w7_ at HR7 BK3 HM7 HS7 hHeld ⊢
  refine pure_ (i := 0) (N := some 32) (v := ?_) (a' := ?_) #[true, false, false, false, false, false, false, false, false, false, false] rfl rfl (any_of HT_.out (by kernel_rfl)) (fun _ _ _ h => h) (Or.inl ⟨by rfl, ?_⟩) ?_ ?_
  rotate_left
  · intro w'
    go_simp
    with_reducible rfl
  rotate_left
  · simp only [Act.put, List.setIfInBounds_toArray, List.set_cons_zero, List.set_cons_succ, i64_w, i32_w]
    rfl
  refine pure_ (i := 1) (N := some 33) (v := ?_) (a' := ?_) #[true, true, false, false, false, false, false, false, false, false, false] rfl rfl (any_of HT_.out (by kernel_rfl)) (fun _ _ _ h => h) (Or.inl ⟨by rfl, ?_⟩) ?_ ?_
  rotate_left
  · intro w'
    go_simp
    with_reducible rfl
  rotate_left
  · simp only [Act.put, List.setIfInBounds_toArray, List.set_cons_zero, List.set_cons_succ, i64_w, i32_w]
    rfl
  refine pure_ (i := 2) (N := some 34) (v := ?_) (a' := ?_) #[true, true, true, false, false, false, false, false, false, false, false] rfl rfl (any_of HT_.out (by kernel_rfl)) (fun _ _ _ h => h) (Or.inl ⟨by rfl, ?_⟩) ?_ ?_
  rotate_left
  · intro w'
    go_simp
    with_reducible rfl
  rotate_left
  · simp only [Act.put, List.setIfInBounds_toArray, List.set_cons_zero, List.set_cons_succ, i64_w, i32_w]
    rfl
  refine pure_ (i := 3) (N := some 35) (v := ?_) (a' := ?_) #[true, true, true, true, false, false, false, false, false, false, false] rfl rfl (any_of HT_.out (by kernel_rfl)) (fun _ _ _ h => h) (Or.inl ⟨by rfl, ?_⟩) ?_ ?_
  rotate_left
  · intro w'
    go_simp
    with_reducible rfl
  rotate_left
  · simp only [Act.put, List.setIfInBounds_toArray, List.set_cons_zero, List.set_cons_succ, i64_w, i32_w]
    rfl
  refine take_ (i := 4) (N := some 36) (v := ?_) (a' := ?_) #[true, true, true, true, true, false, false, false, false, false, false] rfl rfl (take_ofW HT_.out HW_.out (by kernel_rfl)) (fun _ _ _ h => h) (Or.inl ⟨by rfl, ?_⟩) hHeld ?_ ?_
  rotate_left
  · rintro w' ⟨s0, s1, s2, s3, s4⟩
    go_simp
    with_reducible rfl
  rotate_left
  · simp only [Act.put, List.setIfInBounds_toArray, List.set_cons_zero, List.set_cons_succ, i64_w, i32_w]
    rfl
  refine take_ (i := 5) (N := some 37) (v := ?_) (a' := ?_) #[true, true, true, true, true, true, false, false, false, false, false] rfl rfl (take_ofW HT_.out HW_.out (by kernel_rfl)) (fun _ _ _ h => h) (Or.inl ⟨by rfl, ?_⟩) hHeld ?_ ?_
  rotate_left
  · rintro w' ⟨s0, s1, s2, s3, s4⟩
    go_simp
    with_reducible rfl
  rotate_left
  · simp only [Act.put, List.setIfInBounds_toArray, List.set_cons_zero, List.set_cons_succ, i64_w, i32_w]
    rfl
  refine one_ (i := 6) (N := some 38) #[true, true, true, true, true, true, true, false, false, false, false] rfl rfl (one_of HT_.out (by kernel_rfl)) (by decide) (fun K hK => ?_)
  refine value_ (w1 := ?_) (v := ?_) (by rfl) rfl ?_ ?_
  rotate_left 2
  · go_simp
    constructor
    · rfl
    · rfl
  refine hK.out _ _ ⟨(blk_cell (blk_alloc HR7.out.hb _) 1).trans rfl, (blk_cell (blk_alloc BK3.out _) 0).trans rfl, (blk_cell (blk_alloc BK3.out _) 1).trans rfl, (blk_cell (blk_alloc BK3.out _) 2).trans rfl, (blk_cell (blk_alloc BK3.out _) 3).trans rfl⟩ (fun hHeld => ?_)
  clear hK K
  refine norm_ (a' := ?_) ?_ ?_
  rotate_left
  · show Act.put _ (some 38) _ = _
    simp only [Act.put, List.setIfInBounds_toArray, List.set_cons_zero, List.set_cons_succ, i64_w, i32_w]
    rfl
  refine one_ (i := 7) (N := some 39) #[true, true, true, true, true, true, true, true, false, false, false] rfl rfl (one_of HT_.out (by kernel_rfl)) (by decide) (fun K hK => ?_)
  refine FR_append_step (w0 := w7_) N ?hw (.tmp 36) (.tmp 38) 28 rfl Try.underlying28 info30 (.slice A l.length c) l x ok rfl rfl ?aF ?aO ?aB ?aS ?aL ?_
  (case hw => rfl)
  (case aB => exact Below.refl _ _)
  (case aF => exact (fun k_ hk => HFr.out k_ (Nat.le_trans HS7.out hk)))
  (case aO => exact HR7.out.hl)
  (case aS => exact HR7.out.hs)
  (case aL => have := HL1.out; omega)
  intro v8_ w8_ ho hb hg hat
  obtain ⟨A3, c3, he3, _⟩ := FR_slice ho
  rw [show (l ++ [x]).length = l.length + 1 by simp] at he3
  subst he3
  have HBK := Aside0.mk (blk_grown HR7.out.hb hg (FR_ne HR7.out.hl HR7.out.hb (by decide)))
  have BK3n := Aside0.mk (blk_grown BK3.out hg NE3.out)
  have HO := Aside0.mk ho
  have HM8 := Aside0.mk (HM7.out.trans (LMoves.of_grown (N := N) (g := g) hg (FR_base HR7.out.hl) HR7.out.hs hat))
  have HS8 := Aside0.mk (Nat.le_trans HR7.out.hs hg.size)
  clear ho hb hg hat
  refine hK.out _ _ ⟨(blk_cell HBK.out 1).trans rfl, (blk_cell BK3n.out 0).trans rfl, (blk_cell BK3n.out 1).trans rfl, (blk_cell BK3n.out 2).trans rfl, (blk_cell BK3n.out 3).trans rfl⟩ (fun hHeld => ?_)
  clear hK K
  refine norm_ (a' := ?_) ?_ ?_
  rotate_left
  · show Act.put _ (some 39) _ = _
    simp only [Act.put, List.setIfInBounds_toArray, List.set_cons_zero, List.set_cons_succ, i64_w, i32_w]
    rfl
  refine pure_ (i := 8) (N := some 40) (v := ?_) (a' := ?_) #[true, true, true, true, true, true, true, true, true, false, false] rfl rfl (any_of HT_.out (by kernel_rfl)) (fun _ _ _ h => h) (Or.inl ⟨by rfl, ?_⟩) ?_ ?_
  rotate_left
  · intro w'
    go_simp
    with_reducible rfl
  rotate_left
  · simp only [Act.put, List.setIfInBounds_toArray, List.set_cons_zero, List.set_cons_succ, i64_w, i32_w]
    rfl
  refine pure_ (i := 9) (N := some 41) (v := ?_) (a' := ?_) #[true, true, true, true, true, true, true, true, true, true, false] rfl rfl (any_of HT_.out (by kernel_rfl)) (fun _ _ _ h => h) (Or.inl ⟨by rfl, ?_⟩) ?_ ?_
  rotate_left
  · intro w'
    go_simp
    with_reducible rfl
  rotate_left
  · simp only [Act.put, List.setIfInBounds_toArray, List.set_cons_zero, List.set_cons_succ, i64_w, i32_w]
    rfl
  refine last_ (i := 10) (N := none) #[true, true, true, true, true, true, true, true, true, true, true] rfl rfl (one_of HT_.out (by kernel_rfl)) (by decide) (fun K hK => ?_)
  have hs := (blk_cell HBK.out 1).trans rfl
  have ht := blk_frozen HBK.out 1
  refine skip_ (w1 := ?_) (by rfl) rfl ?_ ?_
  rotate_left
  · go_simp
    rfl
  refine hK.out _ _ ?_
  clear hK K
  refine done_ (done_of HT_.out (by kernel_rfl)) ?_
  have n0_ := Aside0.mk (show LBox 58 (w8_.setCell ⟨g, 1, none⟩ (.slice A3 (l.length + 1) c3)) N g base (l ++ [x]) (.slice A3 (l.length + 1) c3) ok from ⟨blk_put (cs := #[.int .i64 base, .slice A l.length c]) HBK.out 1 _ rfl, FR_set HO.out HBK.out (by decide) 1 _, HR.out.hN, by simp; exact HS8.out⟩)
  have n1_ := Aside0.mk (HM8.out.trans (LMoves.of_set (N := N) (g := g) (V := .slice A3 (l.length + 1) c3) w8_ HR.out.hN 1 (.slice A3 (l.length + 1) c3)))
  clear HR7 HM7 HM8 HBK HO HS8 BK3 BK3n
  generalize w8_.setCell ⟨g, 1, none⟩ (.slice A3 (l.length + 1) c3) = w9_ at n0_ n1_ ⊢
  go_wp2_with (first | (go_at_call 13; (with_reducible refine (log_last n0_.out ⟨HX.out.1, ?hlm⟩).mono ?_); (case hlm => rw [List.length_append]; exact HLM.out); rintro e_ w10_ ⟨rfl, rfl⟩; rw [show (l ++ [x]).length = l.length + 1 by simp]))
  go_ret2
  exact ⟨_, rfl, n0_.out.below (below_drew (Below.refl _ _)), n1_.out.trans (LMoves.of_below (below_drew (Below.refl _ _)) n0_.out.hs)⟩
end Go.Proofs.Ytmapkneofccboaa.FA
