/- Written by hand (wip/tools/gen_log6.py): place and Cut of a log; a log beside another row of items. -/
import Derived.Test.YtmapkneofccboaaHLogTrim
namespace Go.Proofs.Ytmapkneofccboaa.FA
open Go.RowKit Go.Proofs.YtmapkneofccboaaW.PrintWords Go.Proofs.YtmapkneofccboaaW.PrintLast Go.Proofs.YtmapkneofccboaaW.PrintMore Go.Proofs.Ytmapkneofccboaa.Hand Go.Proofs.Ytmapkneofccboaa.B
set_option linter.unusedVariables false
set_option linter.unusedSimpArgs false
/-- A block that is none of a row's. -/
def Beside (v : Value) (k : Nat) : Prop := some k ≠ v.ownBlock
/-- What a log's function leaves of another row of items. -/
theorem beside_moves {w w' : World} {N g : Nat} {V V' U : Value} {hv : List S30} {cells : Array Value} (hu : Kd.Q k30 30 w N (Beside V) U hv) (hg : w.heap[g]? = some (.cells cells 58 (0, 0))) (m : LMoves N g V V' w w') : Kd.Q k30 30 w' N (Beside V') U hv :=
  Kd.Q_mono (Kd.Q_move (Kd.Q_bound hu) (fun k hk => m.block k hk.2.2.1 (by
    obtain ⟨q, hq, c, hc⟩ := hk.2.2.2
    rw [k_E, List.mem_singleton] at hq
    subst hq
    rintro rfl
    rw [hc] at hg
    injection hg with hg
    injection hg with _ hg
    exact absurd hg (by decide)) hk.1)) (fun k hk he => by
    rcases m.own k he.symm with h | h
    · exact hk.1 h.symm
    · have := hk.2.2.1; omega)
/-- What another row's growth leaves of a log. -/
theorem LBox.beside {w w1 : World} {N g : Nat} {base : Int} {l hv : List S30} {V U U' : Value} {okU : Nat → Prop} (r : LBox 58 w N g base l V (Beside U)) (hu : Kd.Q k30 30 w N okU U hv) (hg : w.grownBy w1 U.ownBlock) (hat : U'.ownBlock = U.ownBlock ∨ ∃ b, U'.ownBlock = some b ∧ w.heap.size ≤ b) : LBox 58 w1 N g base l V (Beside U') :=
  ⟨blk_grown r.hb hg (Kd.Q_ne hu r.hb (by decide)), FR_mono (FR_step (FR_bound r.hl) (fun k hk hlt => hg.block k hlt hk.1)) (fun k hk he => by
    rcases hat with h | ⟨b, h, hle⟩
    · exact hk.1 (h ▸ he)
    · rw [h] at he; injection he with he; have := hk.2.2.1; omega), r.hN, Nat.le_trans r.hs hg.size⟩
theorem cutHM (A : Option Addr) (n c i : Nat) (hi : i ≤ n) (hc : n ≤ c) : ∀ W : World, (Instr.slice 28 (.slice A n c) none (some (.int .i64 (i : Int))) (some (.int .i64 (i : Int)))).run Try.prog W = .ok (.slice A i i) W := by
  intro W
  have hel : Try.prog.elem 28 = 30 := by simp [Program.elem, Try.underlying28]
  have hu : Try.prog.underlying 28 = some (.slice (Try.prog.elem 28)) := by rw [hel]; exact Try.underlying28
  have := run_slice_hm W 28 A n c hu .i64 .i64 (i : Int) (i : Int) (by omega) (Int.le_refl _) (by omega)
  rw [this, hel]
  obtain ⟨inf, hi', hs⟩ := info_item_parts
  simp [sizeOf, typeInfo, hi', sliced, Result.andThen]
  intro _
  cases A <;> simp [Addr.add]
def logAddS.T3 : Bool × List (List Nat × List Nat) := (true, [([], []), ([0], [0]), ([], []), ([2], [2]), ([1, 3], [1, 3]), ([4, 3], [4])])
def logAddS.B3 : List Nat := [0, 1, 0, 4, 15, 31]
theorem logAddS.tab3 : rtab .any (opsOf Try.f9 3) = logAddS.T3 := by kernel_rfl
theorem logAddS.bits3 : waitsOk logAddS.T3.2 logAddS.B3 = true := by kernel_rfl
set_option maxHeartbeats 8000000 in
set_option maxRecDepth 100000 in
theorem log_add_state {w : World} {N g : Nat} {base : Int} {l : List S30} {V : Value} {ok : Nat → Prop} (r : LBox 58 w N g base l V ok) (hlen : l.length ≤ 1000000) (x : S30) (h : rightB x = true) (hv : x.f0 < viewV l) : Calls Try.prog 9 #[.pointer (some ⟨g, 0, none⟩), .agg #[.int .i64 x.f0, .int .i64 x.f1, .int .i64 x.f2, .string x.f3]] w fun e w' => e = .returned (.tuple #[.int .i64 0, .int .i64 7]) ∧ Below w.heap.size w w' := by
  have HF := Aside0.mk (show oplog_right.f x.f0 x.f1 x.f2 x.f3 = some true by rw [right_is, h])
  obtain ⟨vv, hvv⟩ : ∃ vv, viewV l = vv := ⟨_, rfl⟩
  rw [hvv] at hv
  have HVV := Aside0.mk hvv
  have bv : decide (x.f0 < vv) = true := decide_eq_true hv
  have HB := Aside0.mk (Below.refl w.heap.size w)
  have HR := Aside0.mk r
  have HL1 := Aside0.mk hlen
  clear r hlen h hv hvv
  go_enter Try.func9, Try.ntmps9
  go_upto_region 3 with (first | ((with_reducible refine gate_dst (N := 3) rfl ?_); refine box_event ?hg (N := 3) ?hd (cs := #[.int .i64 x.f0, .int .i64 x.f1, .int .i64 x.f2, .string x.f3]) (t := 30) ?hr ?_; (case hd => rfl); (case hg => rfl); (case hr => first | (go_simp; done) | (go_simp; rfl)); intro gb3 hg w1_ hbox hb; have BK3 := Aside0.mk hbox; have GE3 := Aside0.mk (show w.heap.size ≤ gb3 from by rw [hg]; exact below_size HB.out); have n1_ := Aside0.mk (below_step HB.out hb); clear HB; have HB := n1_; clear n1_ hb hbox hg; have hz0 := (blk_cell BK3.out 0).trans rfl; have hz1 := (blk_cell BK3.out 1).trans rfl; have hz2 := (blk_cell BK3.out 2).trans rfl; have hz3 := (blk_cell BK3.out 3).trans rfl) | (go_at_call 26; (with_reducible refine (oplog_right.calls x.f0 x.f1 x.f2 x.f3 true _ HF.out).mono ?_); rintro e_ w2_ ⟨rfl, hb⟩; have n0_ := Aside0.mk (blk_below BK3.out hb); have n1_ := Aside0.mk (below_step HB.out hb); clear BK3 HB hz0 hz1 hz2 hz3; have BK3 := Aside0.mk (show w2_.heap[gb3]? = some (.cells #[.int .i64 x.f0, .int .i64 x.f1, .int .i64 x.f2, .string x.f3] 30 (0, 0)) from n0_.out); have HB := n1_; clear n0_ n1_ hb; have hz0 := (blk_cell BK3.out 0).trans rfl; have hz1 := (blk_cell BK3.out 1).trans rfl; have hz2 := (blk_cell BK3.out 2).trans rfl; have hz3 := (blk_cell BK3.out 3).trans rfl))
  have n0_ := Aside0.mk (show w2_.drew.heap[gb3]? = some (.cells #[.int .i64 x.f0, .int .i64 x.f1, .int .i64 x.f2, .string x.f3] 30 (0, 0)) from blk_drew BK3.out)
  have n1_ := Aside0.mk (below_step HB.out (below_drew (Below.refl w2_.heap.size w2_)))
  clear BK3 HB hz0 hz1 hz2 hz3
  have BK3 := n0_
  have HB := n1_
  clear n0_ n1_
  refine start_ (n := 6) (S := fun w' => w'.cell? ⟨gb3, 0, none⟩ = some (.int .i64 x.f0)) (ds := []) #[false, false, false, false, false, false] (by kernel_rfl) rfl rfl ((blk_cell BK3.out 0).trans rfl) (fun hHeld => ?_)
  generalize w2_.drew = w3_ at BK3 HB hHeld ⊢
  refine pure_ (i := 0) (N := some 11) (v := ?_) (a' := ?_) #[true, false, false, false, false, false] rfl rfl (by kernel_rfl) (fun _ _ _ h => h) (Or.inl ⟨by rfl, ?_⟩) ?_ ?_
  rotate_left
  · intro w'
    go_simp
    with_reducible rfl
  rotate_left
  · simp only [Act.put, List.setIfInBounds_toArray, List.set_cons_zero, List.set_cons_succ, i64_w, i32_w]
    rfl
  refine pure_ (i := 2) (N := some 13) (v := ?_) (a' := ?_) #[true, false, true, false, false, false] rfl rfl (by kernel_rfl) (fun _ _ _ h => h) (Or.inl ⟨by rfl, ?_⟩) ?_ ?_
  rotate_left
  · intro w'
    go_simp
    with_reducible rfl
  rotate_left
  · simp only [Act.put, List.setIfInBounds_toArray, List.set_cons_zero, List.set_cons_succ, i64_w, i32_w]
    rfl
  refine take_ (i := 1) (N := some 12) (v := ?_) (a' := ?_) #[true, true, true, false, false, false] rfl rfl (by kernel_rfl) (fun _ _ _ h => h) (Or.inl ⟨by rfl, ?_⟩) hHeld ?_ ?_
  rotate_left
  · intro w' s0
    go_simp
    with_reducible rfl
  rotate_left
  · simp only [Act.put, List.setIfInBounds_toArray, List.set_cons_zero, List.set_cons_succ, i64_w, i32_w]
    rfl
  refine one_ (i := 3) (N := some 14) #[true, true, true, true, false, false] rfl rfl (by kernel_rfl) (by decide) (fun K hK => ?_)
  refine goes_ Try.func22 (by kernel_rfl) rfl #[.pointer (some ⟨g, 0, none⟩)] (by rfl) rfl rfl (by (try simp only [List.map_toArray, List.map_cons, List.map_nil]); first | done | rfl) ?_
  refine (log_view (HR.out.below HB.out) HL1.out).mono ?_
  rintro e w4_ ⟨rfl, hb⟩
  refine ⟨_, rfl, ?_⟩
  rw [HVV.out]
  have n0_ := Aside0.mk (show w4_.heap[gb3]? = some (.cells #[.int .i64 x.f0, .int .i64 x.f1, .int .i64 x.f2, .string x.f3] 30 (0, 0)) from blk_below BK3.out hb)
  have n1_ := Aside0.mk (below_step HB.out hb)
  clear BK3 HB
  have BK3 := n0_
  have HB := n1_
  clear n0_ n1_
  clear hb
  refine hK.out _ _ ((blk_cell BK3.out 0).trans rfl) (fun hHeld => ?_)
  clear hK K
  refine norm_ (a' := ?_) ?_ ?_
  rotate_left
  · show Act.put _ (some 14) _ = _
    simp only [Act.put, List.setIfInBounds_toArray, List.set_cons_zero, List.set_cons_succ, i64_w, i32_w]
    rfl
  refine pure_ (i := 4) (N := some 15) (v := ?_) (a' := ?_) #[true, true, true, true, true, false] rfl rfl (by kernel_rfl) (fun _ _ _ h => h) (Or.inl ⟨by rfl, ?_⟩) ?_ ?_
  rotate_left
  · intro w'
    go_simp
    with_reducible rfl
  rotate_left
  · simp only [Act.put, List.setIfInBounds_toArray, List.set_cons_zero, List.set_cons_succ, i64_w, i32_w]
    rfl
  refine pure_ (i := 5) (N := some 10) (v := ?_) (a' := ?_) #[true, true, true, true, true, true] rfl rfl (by kernel_rfl) (fun _ _ _ h => h) (Or.inl ⟨by rfl, ?_⟩) ?_ ?_
  rotate_left
  · intro w'
    go_simp
    with_reducible rfl
  rotate_left
  · simp only [Act.put, List.setIfInBounds_toArray, List.set_cons_zero, List.set_cons_succ, i64_w, i32_w]
    rfl
  refine done_ (by kernel_rfl) ?_
  go_wp2
  go_ret2
  exact ⟨rfl, HB.out⟩
theorem log_place_bad {w : World} {N g : Nat} {base : Int} {l : List S30} {V : Value} {ok : Nat → Prop} (r : LBox 58 w N g base l V ok) (hx : 0 ≤ base ∧ base + (l.length : Int) ≤ 1099511627776) (n : Int) (h : n < 0 ∨ base + (l.length : Int) < n) : Calls Try.prog 27 #[.pointer (some ⟨g, 0, none⟩), .int .i64 n] w fun e w' =>  e = .returned (.tuple #[.int .i64 0, .int .i64 6]) ∧ Below w.heap.size w w' := by
  have HR := Aside0.mk r
  have HX := Aside0.mk hx
  by_cases h0 : n < 0
  · have b0 : decide (n < 0) = true := decide_eq_true h0
    clear h h0 r hx
    go_enter Try.func27, Try.ntmps27
    go_wp2
    go_ret2
    exact ⟨rfl, Below.refl _ _⟩
  · have b0 : decide (n < 0) = false := decide_eq_false h0
    have b1 : decide (n > base + (l.length : Int)) = true := decide_eq_true (by omega)
    clear h h0 r hx
    go_enter Try.func27, Try.ntmps27
    go_wp2_with (first | (go_at_call 13; (with_reducible refine (log_last HR.out HX.out).mono ?_); rintro e_ w1_ ⟨rfl, rfl⟩; have n0_ := Aside0.mk (HR.out.below (below_drew (Below.refl _ _))); clear HR; have HR := n0_; clear n0_; have hz0 := (blk_cell HR.out.hb 0).trans rfl))
    go_ret2
    exact ⟨rfl, below_drew (Below.refl _ _)⟩
theorem log_place_gone {w : World} {N g : Nat} {base : Int} {l : List S30} {V : Value} {ok : Nat → Prop} (r : LBox 58 w N g base l V ok) (hx : 0 ≤ base ∧ base + (l.length : Int) ≤ 1099511627776) (n : Int) (h : 0 ≤ n ∧ n < base) : Calls Try.prog 27 #[.pointer (some ⟨g, 0, none⟩), .int .i64 n] w fun e w' =>  e = .returned (.tuple #[.int .i64 0, .int .i64 50]) ∧ Below w.heap.size w w' := by
  have HR := Aside0.mk r
  have HX := Aside0.mk hx
  have b0 : decide (n < 0) = false := decide_eq_false (by omega)
  have b1 : decide (n > base + (l.length : Int)) = false := decide_eq_false (by omega)
  have b2 : decide (n < base) = true := decide_eq_true h.2
  clear h r hx
  go_enter Try.func27, Try.ntmps27
  go_wp2_with (first | (go_at_call 13; (with_reducible refine (log_last HR.out HX.out).mono ?_); rintro e_ w1_ ⟨rfl, rfl⟩; have n0_ := Aside0.mk (HR.out.below (below_drew (Below.refl _ _))); clear HR; have HR := n0_; clear n0_; have hz0 := (blk_cell HR.out.hb 0).trans rfl))
  go_ret2
  exact ⟨rfl, below_drew (Below.refl _ _)⟩
theorem log_place_ok {w : World} {N g : Nat} {base : Int} {l : List S30} {V : Value} {ok : Nat → Prop} (r : LBox 58 w N g base l V ok) (hx : 0 ≤ base ∧ base + (l.length : Int) ≤ 1099511627776) (n : Int) (h : base ≤ n ∧ n ≤ base + (l.length : Int)) : Calls Try.prog 27 #[.pointer (some ⟨g, 0, none⟩), .int .i64 n] w fun e w' =>  e = .returned (.tuple #[.int .i64 (n - base), .int .i64 0]) ∧ Below w.heap.size w w' := by
  have HR := Aside0.mk r
  have HX := Aside0.mk hx
  have HW := Aside0.mk (show wrap64 (n - base) = n - base from wrap64_in (by omega) (by omega))
  have b0 : decide (n < 0) = false := decide_eq_false (by omega)
  have b1 : decide (n > base + (l.length : Int)) = false := decide_eq_false (by omega)
  have b2 : decide (n < base) = false := decide_eq_false (by omega)
  clear h r hx
  go_enter Try.func27, Try.ntmps27
  go_wp2_with (first | (go_at_call 13; (with_reducible refine (log_last HR.out HX.out).mono ?_); rintro e_ w1_ ⟨rfl, rfl⟩; have n0_ := Aside0.mk (HR.out.below (below_drew (Below.refl _ _))); clear HR; have HR := n0_; clear n0_; have hz0 := (blk_cell HR.out.hb 0).trans rfl))
  go_ret2
  exact ⟨(by show Ending.returned (.tuple #[.int .i64 (wrap64 (n - base)), .int .i64 0]) = _; rw [HW.out]), below_drew (Below.refl _ _)⟩
theorem log_cut_bad {w : World} {N g : Nat} {base : Int} {l : List S30} {V : Value} {ok : Nat → Prop} (r : LBox 58 w N g base l V ok) (hx : 0 ≤ base ∧ base + (l.length : Int) ≤ 1099511627776) (n : Int) (h : n < 0 ∨ base + (l.length : Int) < n) : Calls Try.prog 10 #[.pointer (some ⟨g, 0, none⟩), .int .i64 n] w fun e w' =>  e = .returned (.int .i64 6) ∧ Below w.heap.size w w' := by
  have HR := Aside0.mk r
  have HX := Aside0.mk hx
  have HH := Aside0.mk h
  clear h r hx
  go_enter Try.func10, Try.ntmps10
  go_wp2_with (first | (go_at_call 27; (refine (log_place_bad HR.out HX.out n (by have := HH.out; omega)).mono ?_); rintro e_ w1_ ⟨rfl, hb⟩; have HB := Aside0.mk hb; clear hb))
  go_ret
  exact ⟨rfl, HB.out⟩
theorem log_cut_gone {w : World} {N g : Nat} {base : Int} {l : List S30} {V : Value} {ok : Nat → Prop} (r : LBox 58 w N g base l V ok) (hx : 0 ≤ base ∧ base + (l.length : Int) ≤ 1099511627776) (n : Int) (h : 0 ≤ n ∧ n < base) : Calls Try.prog 10 #[.pointer (some ⟨g, 0, none⟩), .int .i64 n] w fun e w' =>  e = .returned (.int .i64 50) ∧ Below w.heap.size w w' := by
  have HR := Aside0.mk r
  have HX := Aside0.mk hx
  have HH := Aside0.mk h
  clear h r hx
  go_enter Try.func10, Try.ntmps10
  go_wp2_with (first | (go_at_call 27; (refine (log_place_gone HR.out HX.out n (by have := HH.out; omega)).mono ?_); rintro e_ w1_ ⟨rfl, hb⟩; have HB := Aside0.mk hb; clear hb))
  go_ret
  exact ⟨rfl, HB.out⟩
set_option maxHeartbeats 4000000 in
theorem log_cut_ok {w : World} {N g : Nat} {base : Int} {l : List S30} {V : Value} {ok : Nat → Prop} (r : LBox 58 w N g base l V ok) (hx : 0 ≤ base ∧ base + (l.length : Int) ≤ 1099511627776) (n : Int) (h : base ≤ n ∧ n ≤ base + (l.length : Int)) : Calls Try.prog 10 #[.pointer (some ⟨g, 0, none⟩), .int .i64 n] w fun e w' =>  ∃ V', e = .returned (.int .i64 0) ∧ LBox 58 w' N g base (l.take (n - base).toNat) V' ok ∧ LMoves N g V V' w w' := by
  obtain ⟨A, c, he, hc⟩ := FR_slice r.hl
  subst he
  obtain ⟨i, hi⟩ : ∃ i : Nat, n - base = (i : Int) := ⟨(n - base).toNat, by omega⟩
  have hil : i ≤ l.length := by omega
  have hk := cutHM A l.length c i hil hc
  rw [show (n - base).toNat = i by omega]
  have HR := Aside0.mk r
  have HX := Aside0.mk hx
  have HH := Aside0.mk h
  have HI := Aside0.mk hi
  have HIL := Aside0.mk hil
  clear r hx h hi hil hc
  go_enter Try.func10, Try.ntmps10
  go_wp2_with (first | (go_at_call 27; (refine (log_place_ok HR.out HX.out n HH.out).mono ?_); rintro e_ w1_ ⟨he, hb⟩; rw [HI.out] at he; subst he; have n0_ := Aside0.mk (HR.out.below hb); have HM := Aside0.mk (LMoves.of_below (N := N) (g := g) (V := .slice A l.length c) hb HR.out.hs); clear HR; have HR := n0_; clear n0_ hb; have hz1 := (blk_cell HR.out.hb 1).trans rfl; have hf1 := blk_frozen HR.out.hb 1))
  go_ret
  have hm := HM.out.trans (LMoves.of_set (N := N) (g := g) (V := .slice A l.length c) w1_ HR.out.hN 1 (.slice A i i))
  have ho : (Value.slice A i i).ownBlock = (Value.slice A l.length c).ownBlock := by cases A <;> rfl
  exact ⟨_, rfl, ⟨blk_put (cs := #[.int .i64 base, .slice A l.length c]) HR.out.hb 1 _ rfl, FR_set (FR_cut HR.out.hl HIL.out) HR.out.hb (by decide) 1 _, HR.out.hN, by simp; exact HR.out.hs⟩, ⟨hm.os, hm.tape, hm.output, hm.size, hm.low, hm.block, fun k hk => hm.own k (by rw [← ho]; exact hk)⟩⟩
end Go.Proofs.Ytmapkneofccboaa.FA
