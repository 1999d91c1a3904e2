/- Written by hand (wip/tools/gen_ask_unpack.py): ask.Unpack and its closures. -/
import Derived.Test.YtellcdiifpdonaaHAskPack
import Derived.Test.YtellcdiifpdonaaHandV
import Derived.Test.YtellcdiifpdonaaFATlvAll
namespace Go.Proofs.Ytellcdiifpdonaa.FA
open Go.RowKit Go.Proofs.YtellcdiifpdonaaW.PrintWords Go.Proofs.YtellcdiifpdonaaW.PrintLast Go.Proofs.YtellcdiifpdonaaW.PrintMore Go.Proofs.Ytellcdiifpdonaa.Hand Go.Proofs.Ytellcdiifpdonaa.B
set_option linter.unusedVariables false
set_option linter.unusedSimpArgs false
theorem askNumber_calls (k : Nat) (s : ByteArray) (n e : Int) (w : World) (h : tlv_Number.f k s = some (n, e)) : Calls Try.prog 25 #[.string s] w fun ev w' => ev = .returned (.int .i64 n) ∧ Drawn0 w w' := by
  go_enter Try.func25, Try.ntmps25
  go_wp2_with (first | (go_at_call 26; refine (tlv_Number.calls k s n e _ h).mono ?_; rintro e_ w_ ⟨rfl, ⟨nd, rfl⟩⟩))
  go_ret
  exact ⟨rfl, by repeat (first | exact Drawn0.refl _ | apply Drawn0.step)⟩
def namedV (k : Nat) (s : ByteArray) : Option (Int × Int) := if s.size = 7 then (tlv_Number.f k (s.extract 0 1)).bind fun a => (tlv_Number.f k (s.extract 1 s.size)).bind fun b => some (a.1, b.1) else some (0, 0)
theorem namedV_mono (k : Nat) (s : ByteArray) : LeO (namedV k s) (namedV (k + 1) s) := by
  unfold namedV
  refine LeO.ite (LeO.bind (tlv_Number.mono _ _) (fun _ => LeO.bind (tlv_Number.mono _ _) (fun _ => LeO.refl _))) (LeO.refl _)
theorem askNamed_bad (k : Nat) (s : ByteArray) (g : Addr) (w : World) (h : ¬ s.size = 7) : Calls Try.prog 27 #[.string s, .pointer (some g)] w fun ev w' => ev = .returned (.agg #[.int .i64 0, .int .i64 0]) ∧ Below w.heap.size w w' := by
  have HB := Aside0.mk (Below.refl w.heap.size w)
  have hu23 := Try.underlying23
  have b0 : ((s.size : Int) == 7) = false := beq_eq_false_iff_ne.mpr (by omega)
  have b1 : ((s.size : Int) != 7) = true := bne_iff_ne.mpr (by omega)
  clear h
  go_enter Try.func27, Try.ntmps27
  go_wp2_with (first | ((with_reducible refine gate_dst (N := 3) rfl ?_); refine box_event ?hg (N := 3) ?hd (cs := #[.int .i64 0, .int .i64 0]) (t := 23) ?hr ?_; (case hd => rfl); (case hg => rfl); (case hr => first | (go_simp; done) | (go_simp; rfl)); intro gb3 hg w1_ hbox hb; have nx_ := Aside0.mk hbox; have ny_ := Aside0.mk (show w.heap.size ≤ gb3 from by rw [hg]; exact below_size (by repeat (first | (with_reducible first | exact HB.out | apply below_alloc | apply pw_below_drewN | apply below_drew1) | exact HB.out))); have n0_ := Aside0.mk (below_step (by repeat (first | (with_reducible first | exact HB.out | apply below_alloc | apply pw_below_drewN | apply below_drew1) | exact HB.out)) hb); clear HB; have HB := n0_; clear n0_; have BK3 := nx_; have GE3 := ny_; clear hb hbox hg nx_ ny_ ; have hz3_0 := (blk_cell BK3.out 0).trans rfl; have hf3_0 := blk_frozen BK3.out 0; have hz3_1 := (blk_cell BK3.out 1).trans rfl; have hf3_1 := blk_frozen BK3.out 1))
  refine bodyPost_ret (results_c1 rfl _ _ gb3 23 #[.int .i64 0, .int .i64 0] (0, 0) _ rfl (by (with_reducible repeat (first | refine blk_drewN ?_ _ | refine blk_drew ?_ | refine blk_alloc ?_ _)); refine blk_put (cs := #[.int .i64 0, .int .i64 0]) ?_ 1 _ rfl; (with_reducible repeat (first | refine blk_drewN ?_ _ | refine blk_drew ?_ | refine blk_alloc ?_ _)); refine blk_put (cs := #[.int .i64 0, .int .i64 0]) ?_ 0 _ rfl; (with_reducible repeat (first | refine blk_drewN ?_ _ | refine blk_drew ?_ | refine blk_alloc ?_ _)); exact BK3.out) hu23 rfl (by kernel_rfl)) rfl ?_
  exact ⟨rfl, (by repeat (first | (with_reducible first | exact HB.out | apply below_alloc | apply pw_below_drewN | apply below_drew1 | refine below_set ?_ GE3.out) | exact HB.out))⟩
def askNamed.T3 : Bool × List (List Nat × List Nat) := (true, [([], []), ([], []), ([1], [1]), ([0, 2], [0, 2]), ([], []), ([], []), ([5], [5]), ([4, 6, 3], [4, 6]), ([3, 7], [3, 7]), ([8, 7, 0, 1, 2, 3, 4, 5, 6, 7, 8], [8])])
def askNamed.B3 : List Nat := [0, 0, 2, 7, 0, 0, 32, 127, 255, 511]
theorem askNamed.tab3 : rtab .any (opsOf Try.f27 3) = askNamed.T3 := by kernel_rfl
theorem askNamed.bits3 : waitsOk askNamed.T3.2 askNamed.B3 = true := by kernel_rfl
set_option maxHeartbeats 2000000 in
theorem askNamed_good (k : Nat) (s : ByteArray) (a b ea eb : Int) (g : Nat) (w : World) (hg : w.heap[g]? = some (.cells #[.func (.func 25) #[] #[]] 63 (0, 0))) (h : s.size = 7) (ha : tlv_Number.f k (s.extract 0 1) = some (a, ea)) (hb' : tlv_Number.f k (s.extract 1 s.size) = some (b, eb)) :
    Calls Try.prog 27 #[.string s, .pointer (some ⟨g, 0, none⟩)] w fun ev w' => ev = .returned (.agg #[.int .i64 a, .int .i64 b]) ∧ Below w.heap.size w w' := by
  have HB := Aside0.mk (Below.refl w.heap.size w)
  have hu23 := Try.underlying23
  have b0 : ((s.size : Int) == 7) = true := beq_iff_eq.mpr (by omega)
  have b1 : ((s.size : Int) != 7) = false := bne_eq_false_iff_eq.mpr (by omega)
  have BKg := Aside0.mk hg
  have HA := Aside0.mk ha
  have HH := Aside0.mk hb'
  have hl1 : (1 : Int) ≤ (s.size : Int) := by omega
  have hl1b : decide ((1 : Int) ≤ (s.size : Int)) = true := decide_eq_true hl1
  have hl2 : 1 ≤ s.size := by omega
  clear hg ha hb' h
  go_enter Try.func27, Try.ntmps27
  go_wp2_with (first | ((with_reducible refine gate_dst (N := 3) rfl ?_); refine box_event ?hg (N := 3) ?hd (cs := #[.int .i64 0, .int .i64 0]) (t := 23) ?hr ?_; (case hd => rfl); (case hg => rfl); (case hr => first | (go_simp; done) | (go_simp; rfl)); intro gb3 hg w1_ hbox hb; have nx_ := Aside0.mk hbox; have ny_ := Aside0.mk (show w.heap.size ≤ gb3 from by rw [hg]; exact below_size (by repeat (first | (with_reducible first | exact HB.out | apply below_alloc | apply pw_below_drewN | apply below_drew1) | exact HB.out))); have x0_ := Aside0.mk (show g ≠ gb3 from by rw [hg]; exact Nat.ne_of_lt (blk_lt (g := g) (o := .cells #[.func (.func 25) #[] #[]] 63 (0, 0)) (by first | with_reducible exact BKg.out | ((with_reducible repeat (first | refine blk_drewN ?_ _ | refine blk_drew ?_ | refine blk_alloc ?_ _)); exact BKg.out)))); have n0_ := Aside0.mk (blk_below (g := g) (o := .cells #[.func (.func 25) #[] #[]] 63 (0, 0)) (by first | with_reducible exact BKg.out | ((with_reducible repeat (first | refine blk_drewN ?_ _ | refine blk_drew ?_ | refine blk_alloc ?_ _)); exact BKg.out)) hb); have n1_ := Aside0.mk (below_step (by repeat (first | (with_reducible first | exact HB.out | apply below_alloc | apply pw_below_drewN | apply below_drew1) | exact HB.out)) hb); clear BKg HB; have BKg := n0_; have HB := n1_; clear n0_ n1_; have BK3 := nx_; have GE3 := ny_; have NBg_3 := x0_; have NB3_g := Aside0.mk (Ne.symm x0_.out); have hng_3 := x0_.out; have hn3_g := Ne.symm x0_.out; clear hb hbox hg nx_ ny_ x0_; have hzg_0 := (blk_cell BKg.out 0).trans rfl; have hz3_0 := (blk_cell BK3.out 0).trans rfl; have hf3_0 := blk_frozen BK3.out 0; have hz3_1 := (blk_cell BK3.out 1).trans rfl; have hf3_1 := blk_frozen BK3.out 1))
  have n0_ := Aside0.mk (show _ = some (.cells #[.func (.func 25) #[] #[]] 63 (0, 0)) from blk_drew (by first | with_reducible exact BKg.out | ((with_reducible repeat (first | refine blk_drewN ?_ _ | refine blk_drew ?_ | refine blk_alloc ?_ _)); exact BKg.out)))
  have n1_ := Aside0.mk (show _ = some (.cells #[.int .i64 0, .int .i64 0] 23 (0, 0)) from blk_drew (by first | with_reducible exact BK3.out | ((with_reducible repeat (first | refine blk_drewN ?_ _ | refine blk_drew ?_ | refine blk_alloc ?_ _)); exact BK3.out)))
  have n2_ := Aside0.mk (below_drew1 (by repeat (first | (with_reducible first | exact HB.out | apply below_alloc | apply pw_below_drewN | apply below_drew1 | refine below_set ?_ GE3.out) | exact HB.out)))
  clear BKg BK3 HB
  have BKg := n0_
  have BK3 := n1_
  have HB := n2_
  clear n0_ n1_ n2_
  (try clear hzg_0 hz3_0 hf3_0 hz3_1 hf3_1)
  refine start_ (n := 10) (S := fun w' => w'.cell? ⟨g, 0, none⟩ = some (.func (.func 25) #[] #[])) (ds := []) #[false, false, false, false, false, false, false, false, false, false] (by kernel_rfl) rfl rfl ((blk_cell BKg.out 0).trans rfl) (fun hHeld => ?_); refine with_tabW askNamed.tab3 askNamed.bits3 (fun HT_ HW_ => ?_)
  refine pure_ (i := 1) (N := some 9) (v := ?_) (a' := ?_) #[false, true, false, false, false, false, false, false, false, false] rfl rfl (any_of HT_.out (by kernel_rfl)) (fun _ _ _ h => h) (Or.inl ⟨by rfl, ?_⟩) ?_ ?_
  rotate_left
  · intro w'
    go_simp
    with_reducible rfl
  rotate_left
  · simp only [Act.put, List.setIfInBounds_toArray, List.set_cons_zero, List.set_cons_succ, i64_w, i32_w]
    rfl
  refine pure_ (i := 2) (N := some 10) (v := ?_) (a' := ?_) #[false, true, true, false, false, false, false, false, false, false] rfl rfl (any_of HT_.out (by kernel_rfl)) (fun _ _ _ h => h) (Or.inl ⟨by rfl, ?_⟩) ?_ ?_
  rotate_left
  · intro w'
    go_simp
    with_reducible rfl
  rotate_left
  · simp only [Act.put, List.setIfInBounds_toArray, List.set_cons_zero, List.set_cons_succ, i64_w, i32_w]
    rfl
  refine pure_ (i := 5) (N := some 13) (v := ?_) (a' := ?_) #[false, true, true, false, false, true, false, false, false, false] rfl rfl (any_of HT_.out (by kernel_rfl)) (fun _ _ _ h => h) (Or.inl ⟨by rfl, ?_⟩) ?_ ?_
  rotate_left
  · intro w'
    go_simp
    with_reducible rfl
  rotate_left
  · simp only [Act.put, List.setIfInBounds_toArray, List.set_cons_zero, List.set_cons_succ, i64_w, i32_w]
    rfl
  refine pure_ (i := 6) (N := some 14) (v := ?_) (a' := ?_) #[false, true, true, false, false, true, true, false, false, false] rfl rfl (any_of HT_.out (by kernel_rfl)) (fun _ _ _ h => h) (Or.inl ⟨by rfl, ?_⟩) ?_ ?_
  rotate_left
  · intro w'
    go_simp
    with_reducible rfl
  rotate_left
  · simp only [Act.put, List.setIfInBounds_toArray, List.set_cons_zero, List.set_cons_succ, i64_w, i32_w]
    rfl
  refine take_ (i := 0) (N := some 8) (v := ?_) (a' := ?_) #[true, true, true, false, false, true, true, false, false, false] rfl rfl (take_ofW HT_.out HW_.out (by kernel_rfl)) (fun _ _ _ h => h) (Or.inl ⟨by rfl, ?_⟩) hHeld ?_ ?_
  rotate_left
  · intro w' s0
    go_simp
    with_reducible rfl
  rotate_left
  · simp only [Act.put, List.setIfInBounds_toArray, List.set_cons_zero, List.set_cons_succ, i64_w, i32_w]
    rfl
  refine take_ (i := 4) (N := some 12) (v := ?_) (a' := ?_) #[true, true, true, false, true, true, true, false, false, false] rfl rfl (take_ofW HT_.out HW_.out (by kernel_rfl)) (fun _ _ _ h => h) (Or.inl ⟨by rfl, ?_⟩) hHeld ?_ ?_
  rotate_left
  · intro w' s0
    go_simp
    with_reducible rfl
  rotate_left
  · simp only [Act.put, List.setIfInBounds_toArray, List.set_cons_zero, List.set_cons_succ, i64_w, i32_w]
    rfl
  refine one_ (i := 3) (N := some 11) #[true, true, true, true, true, true, true, false, false, false] rfl rfl (one_of HT_.out (by kernel_rfl)) (by decide) (fun K hK => ?_)
  refine goesV_ Try.func25 (by kernel_rfl) rfl #[] #[.string (s.extract 0 1)] #[.string (s.extract 0 1)] (by rfl) rfl rfl (by rfl) (by (try simp only [List.map_toArray, List.map_cons, List.map_nil]); first | done | rfl) (by rfl) ?_
  refine (askNumber_calls k (s.extract 0 1) a ea _ HA.out).mono ?_
  rintro e w2_ ⟨rfl, hd⟩
  refine ⟨_, rfl, ?_⟩
  have hb := hd.below
  clear hd
  have n0_ := Aside0.mk (blk_below (g := g) (o := .cells #[.func (.func 25) #[] #[]] 63 (0, 0)) (by first | with_reducible exact BKg.out | ((with_reducible repeat (first | refine blk_drewN ?_ _ | refine blk_drew ?_ | refine blk_alloc ?_ _)); exact BKg.out)) hb)
  have n1_ := Aside0.mk (blk_below (g := gb3) (o := .cells #[.int .i64 0, .int .i64 0] 23 (0, 0)) (by first | with_reducible exact BK3.out | ((with_reducible repeat (first | refine blk_drewN ?_ _ | refine blk_drew ?_ | refine blk_alloc ?_ _)); exact BK3.out)) hb)
  have n2_ := Aside0.mk (below_step (by repeat (first | (with_reducible first | exact HB.out | apply below_alloc | apply pw_below_drewN | apply below_drew1 | refine below_set ?_ GE3.out) | exact HB.out)) hb)
  clear BKg BK3 HB
  have BKg := n0_
  have BK3 := n1_
  have HB := n2_
  clear n0_ n1_ n2_
  (try clear hb)
  refine hK.out _ _ ((blk_cell BKg.out 0).trans rfl) (fun hHeld => ?_)
  clear hK K
  refine norm_ (a' := ?_) ?_ ?_
  rotate_left
  · show Act.put _ (some 11) _ = _
    simp only [Act.put, List.setIfInBounds_toArray, List.set_cons_zero, List.set_cons_succ, i64_w, i32_w]
    rfl
  refine one_ (i := 7) (N := some 15) #[true, true, true, true, true, true, true, true, false, false] rfl rfl (one_of HT_.out (by kernel_rfl)) (by decide) (fun K hK => ?_)
  refine goesV_ Try.func25 (by kernel_rfl) rfl #[] #[.string (s.extract 1 s.size)] #[.string (s.extract 1 s.size)] (by rfl) rfl rfl (by rfl) (by (try simp only [List.map_toArray, List.map_cons, List.map_nil]); first | done | rfl) (by rfl) ?_
  refine (askNumber_calls k (s.extract 1 s.size) b eb _ HH.out).mono ?_
  rintro e w3_ ⟨rfl, hd⟩
  refine ⟨_, rfl, ?_⟩
  have hb := hd.below
  clear hd
  have n0_ := Aside0.mk (blk_below (g := g) (o := .cells #[.func (.func 25) #[] #[]] 63 (0, 0)) (by first | with_reducible exact BKg.out | ((with_reducible repeat (first | refine blk_drewN ?_ _ | refine blk_drew ?_ | refine blk_alloc ?_ _)); exact BKg.out)) hb)
  have n1_ := Aside0.mk (blk_below (g := gb3) (o := .cells #[.int .i64 0, .int .i64 0] 23 (0, 0)) (by first | with_reducible exact BK3.out | ((with_reducible repeat (first | refine blk_drewN ?_ _ | refine blk_drew ?_ | refine blk_alloc ?_ _)); exact BK3.out)) hb)
  have n2_ := Aside0.mk (below_step (by repeat (first | (with_reducible first | exact HB.out | apply below_alloc | apply pw_below_drewN | apply below_drew1 | refine below_set ?_ GE3.out) | exact HB.out)) hb)
  clear BKg BK3 HB
  have BKg := n0_
  have BK3 := n1_
  have HB := n2_
  clear n0_ n1_ n2_
  (try clear hb)
  refine hK.out _ _ ((blk_cell BKg.out 0).trans rfl) (fun hHeld => ?_)
  clear hK K
  refine norm_ (a' := ?_) ?_ ?_
  rotate_left
  · show Act.put _ (some 15) _ = _
    simp only [Act.put, List.setIfInBounds_toArray, List.set_cons_zero, List.set_cons_succ, i64_w, i32_w]
    rfl
  refine pure_ (i := 8) (N := some 16) (v := ?_) (a' := ?_) #[true, true, true, true, true, true, true, true, true, false] rfl rfl (any_of HT_.out (by kernel_rfl)) (fun _ _ _ h => h) (Or.inl ⟨by rfl, ?_⟩) ?_ ?_
  rotate_left
  · intro w'
    go_simp
    with_reducible rfl
  rotate_left
  · simp only [Act.put, List.setIfInBounds_toArray, List.set_cons_zero, List.set_cons_succ, i64_w, i32_w]
    rfl
  refine one_ (i := 9) (N := none) #[true, true, true, true, true, true, true, true, true, true] rfl rfl (one_of HT_.out (by kernel_rfl)) (by decide) (fun K hK => ?_)
  have hs9_0 := (blk_cell BK3.out 0).trans rfl
  have ht9_0 := blk_frozen BK3.out 0
  have hs9_1 := (blk_cell BK3.out 1).trans rfl
  have ht9_1 := blk_frozen BK3.out 1
  refine skip_ (w1 := ?_) (by rfl) rfl ?_ ?_
  rotate_left
  · go_simp
    rfl
  refine hK.out _ _ ((blk_cell (g := g) (cs := #[.func (.func 25) #[] #[]]) (t := 63) (by (with_reducible repeat (first | refine blk_drewN ?_ _ | refine blk_drew ?_ | refine blk_alloc ?_ _)); refine blk_far ?_ NBg_3.out _; (with_reducible repeat (first | refine blk_drewN ?_ _ | refine blk_drew ?_ | refine blk_alloc ?_ _)); refine blk_far ?_ NBg_3.out _; (with_reducible repeat (first | refine blk_drewN ?_ _ | refine blk_drew ?_ | refine blk_alloc ?_ _)); exact BKg.out) 0).trans rfl) (fun hHeld => ?_)
  clear hK K
  refine done_ (done_of HT_.out (by kernel_rfl)) ?_
  go_wp2
  refine bodyPost_ret (results_c1 rfl _ _ gb3 23 #[.int .i64 a, .int .i64 b] (0, 0) _ rfl (by (with_reducible repeat (first | refine blk_drewN ?_ _ | refine blk_drew ?_ | refine blk_alloc ?_ _)); refine blk_put (cs := #[.int .i64 a, .int .i64 0]) ?_ 1 _ rfl; (with_reducible repeat (first | refine blk_drewN ?_ _ | refine blk_drew ?_ | refine blk_alloc ?_ _)); refine blk_put (cs := #[.int .i64 0, .int .i64 0]) ?_ 0 _ rfl; (with_reducible repeat (first | refine blk_drewN ?_ _ | refine blk_drew ?_ | refine blk_alloc ?_ _)); exact BK3.out) hu23 rfl (by kernel_rfl)) rfl ?_
  exact ⟨rfl, (by repeat (first | (with_reducible first | exact HB.out | apply below_alloc | apply pw_below_drewN | apply below_drew1 | refine below_set ?_ GE3.out) | exact HB.out))⟩
theorem askNamed_calls (k : Nat) (s : ByteArray) (a b : Int) (g : Nat) (w : World) (hg : w.heap[g]? = some (.cells #[.func (.func 25) #[] #[]] 63 (0, 0))) (h : namedV k s = some (a, b)) :
    Calls Try.prog 27 #[.string s, .pointer (some ⟨g, 0, none⟩)] w fun ev w' => ev = .returned (.agg #[.int .i64 a, .int .i64 b]) ∧ Below w.heap.size w w' := by
  unfold namedV at h
  by_cases hs : s.size = 7
  · rw [if_pos hs] at h
    obtain ⟨⟨x, ex⟩, hx, h⟩ := Option.bind_eq_some_iff.1 h
    obtain ⟨⟨y, ey⟩, hy, h⟩ := Option.bind_eq_some_iff.1 h
    simp only [Option.some.injEq, Prod.mk.injEq] at h
    obtain ⟨rfl, rfl⟩ := h
    exact askNamed_good k s x y ex ey g w hg hs hx hy
  · rw [if_neg hs] at h
    simp only [Option.some.injEq, Prod.mk.injEq] at h
    obtain ⟨rfl, rfl⟩ := h
    exact askNamed_bad k s _ w hs
end Go.Proofs.Ytellcdiifpdonaa.FA
