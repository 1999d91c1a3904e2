-- Written by wip/tools/myprint.py (a patched run of the kit's printer) out of the translation.
import Derived.Test.YthmeagbfoccnlaaDoorFAx0
import Derived.Test.YthmeagbfoccnlaaDoorFAsextonref02Sum
namespace Go.Proofs.YthmeagbfoccnlaaDoor.FA
open Go.RowKit Go.Proofs.YthmeagbfoccnlaaDoorW.PrintWords Go.Proofs.YthmeagbfoccnlaaDoorW.PrintLast Go.Proofs.YthmeagbfoccnlaaDoorW.PrintMore
attribute [local go_sem] max2_int min2_int max_two min_two max_three min_three max_four min_four   -- for this text's walks alone
set_option linter.unusedVariables false
set_option linter.unusedSimpArgs false

/-! ### sextonref02_Guard: function 15 -/
def sextonref02_Guard.f (k : Nat) (a0 : ByteArray) : Option (ByteArray) := (sextonref02_Sum.f k a0).bind fun t133 => ((some (([(Int.tmod t133 256) % 256, (Int.tmod (wrap64 (Int.tdiv t133 256)) 256) % 256, (Int.tmod (wrap64 (Int.tdiv t133 65536)) 256) % 256, (wrap64 (Int.tdiv t133 16777216)) % 256] : List Int) : List Int)).bind fun y134 => (if a0.size + (strOfNums y134).size ≤ 9223372036854775807 then (some (a0 ++ (strOfNums y134))) else (none)))
theorem sextonref02_Guard.mono : ∀ a0 k, LeO (sextonref02_Guard.f k a0) (sextonref02_Guard.f (k + 1) a0) := by
  intro a0 k
  unfold sextonref02_Guard.f
  repeat' first
      | (with_reducible exact sextonref02_Sum.mono _ _)
      | (with_reducible exact LeO.refl _)
      | (with_reducible exact LeO.none _)
      | (with_reducible refine LeO.ite ?_ ?_)
      | (with_reducible refine LeO.bind ?_ (fun _ => ?_))
      | exact sextonref02_Sum.mono _ _
      | exact LeO.none _
      | refine LeO.ite ?_ ?_
      | refine LeO.bind ?_ (fun _ => ?_)
set_option maxHeartbeats 8000000 in
set_option maxRecDepth 100000 in
theorem sextonref02_Guard.calls (k : Nat) (a0 : ByteArray) (r : ByteArray) (w : World) (h : sextonref02_Guard.f k a0 = some r) :
    Calls Tryd.prog 15 #[.string a0] w fun e w' => e = .returned (.string r) ∧ Below w.heap.size w w' := by
  have HB := Aside0.mk (Below.refl w.heap.size w)
  have H : ((sextonref02_Sum.f k a0).bind fun t133 => ((some (([(Int.tmod t133 256) % 256, (Int.tmod (wrap64 (Int.tdiv t133 256)) 256) % 256, (Int.tmod (wrap64 (Int.tdiv t133 65536)) 256) % 256, (wrap64 (Int.tdiv t133 16777216)) % 256] : List Int) : List Int)).bind fun y134 => (if a0.size + (strOfNums y134).size ≤ 9223372036854775807 then (some (a0 ++ (strOfNums y134))) else (none)))) = some r := h
  clear h
  replace H := Option.bind_eq_some_iff.mp H
  obtain ⟨t133, A20, H⟩ := H
  replace H : ((some (([(Int.tmod t133 256) % 256, (Int.tmod (wrap64 (Int.tdiv t133 256)) 256) % 256, (Int.tmod (wrap64 (Int.tdiv t133 65536)) 256) % 256, (wrap64 (Int.tdiv t133 16777216)) % 256] : List Int) : List Int)).bind fun y134 => (if a0.size + (strOfNums y134).size ≤ 9223372036854775807 then (some (a0 ++ (strOfNums y134))) else (none))) = some r := H
  have A2 := Aside0.mk A20
  clear A20
  obtain ⟨y134, hy134⟩ : ∃ y_ : List Int, y_ = (([(Int.tmod t133 256) % 256, (Int.tmod (wrap64 (Int.tdiv t133 256)) 256) % 256, (Int.tmod (wrap64 (Int.tdiv t133 65536)) 256) % 256, (wrap64 (Int.tdiv t133 16777216)) % 256] : List Int)) := ⟨_, rfl⟩
  replace H : (if a0.size + (strOfNums y134).size ≤ 9223372036854775807 then (some (a0 ++ (strOfNums y134))) else (none)) = some r := by first | (rw [hy134]; with_reducible exact H) | (have H2_ := (Option.bind_some _ _).symm.trans H; rw [hy134]; with_reducible exact H2_) | (have H2_ := (Option.bind_some _ _).symm.trans H; with_reducible exact H2_) | with_reducible exact H | (rw [hy134]; exact H) | exact H
  have Ny134 := Aside0.mk hy134
  clear hy134
  by_cases c3 : a0.size + (strOfNums y134).size ≤ 9223372036854775807
  · rw [if_pos c3] at H
    have c3b0 := eq_true c3
    have c3b1 : decide (a0.size + (strOfNums y134).size ≤ 9223372036854775807) = true := decide_eq_true c3
    try have c3b2 : (9223372036854775807 < a0.size + (strOfNums y134).size) = False := eq_false (Nat.not_lt.2 c3)
    obtain rfl := Option.some.inj H
    go_enter Tryd.func15, Tryd.ntmps15
    go_wp2_with (first | ((with_reducible refine gate_callee (f := 8) rfl ?_); refine goesL_ (some 5) rfl rfl Tryd.func8 (by kernel_rfl) rfl #[.string a0] rfl (by (try simp only [List.map_toArray, List.map_cons, List.map_nil]); first | done | rfl | (simp only [List.length_drop, List.length_take]; rfl)) ?_; (with_reducible refine (sextonref02_Sum.calls k a0 t133 _ A2.out).mono ?_); rintro e w' ⟨rfl, ⟨nd, rfl⟩⟩; refine ⟨_, rfl, ?_⟩) | ((with_reducible refine gate_dst (N := 21) rfl ?_); refine Kd.R_lit (Kd.int .u8) _ 5 ?hg (N := 21) ?hd (xs := ([(Int.tmod t133 256) % 256, (Int.tmod (wrap64 (Int.tdiv t133 256)) 256) % 256, (Int.tmod (wrap64 (Int.tdiv t133 65536)) 256) % 256, (wrap64 (Int.tdiv t133 16777216)) % 256] : List Int)) (inner := [.int .u8 ((Int.tmod t133 256) % 256), .int .u8 ((Int.tmod (wrap64 (Int.tdiv t133 256)) 256) % 256), .int .u8 ((Int.tmod (wrap64 (Int.tdiv t133 65536)) 256) % 256), .int .u8 ((wrap64 (Int.tdiv t133 16777216)) % 256)]) (ok := fun _ => True) (okp := fun _ => True) ?hr ?hp (fun _ hk => hk) trivial (Below.refl _ _) (Nat.le_refl _) (by simp) ?_; (case hd => rfl); (case hg => rfl); (case hr => first | (go_simp; done) | (go_simp; rfl)); (case hp => exact (Reps.one (show Kd.M (Kd.int .u8) _ _ _ ((Int.tmod t133 256) % 256) [.int .u8 ((Int.tmod t133 256) % 256)] from rfl) (Reps.one (show Kd.M (Kd.int .u8) _ _ _ ((Int.tmod (wrap64 (Int.tdiv t133 256)) 256) % 256) [.int .u8 ((Int.tmod (wrap64 (Int.tdiv t133 256)) 256) % 256)] from rfl) (Reps.one (show Kd.M (Kd.int .u8) _ _ _ ((Int.tmod (wrap64 (Int.tdiv t133 65536)) 256) % 256) [.int .u8 ((Int.tmod (wrap64 (Int.tdiv t133 65536)) 256) % 256)] from rfl) (Reps.one (show Kd.M (Kd.int .u8) _ _ _ ((wrap64 (Int.tdiv t133 16777216)) % 256) [.int .u8 ((wrap64 (Int.tdiv t133 16777216)) % 256)] from rfl) (Reps.none _ _)))))); intro v135 w4 ho5 hb hg_ hnew_; clear hg_ hnew_; (first | rw [← Ny134.out] at ho5 | (simp only [Int.reduceToNat] at ho5; rw [← Ny134.out] at ho5)); have n0_ := Aside0.mk (Kd.R_lower ho5 (below_size (by repeat (first | (with_reducible first | exact HB.out | apply below_alloc | apply pw_below_drewN | apply below_drew1) | exact HB.out)))); have n1_ := Aside0.mk (below_step (by repeat (first | (with_reducible first | exact HB.out | apply below_alloc | apply pw_below_drewN | apply below_drew1) | exact HB.out)) hb); clear HB; have HO136 := n0_; have HB := n1_; clear n0_ n1_; clear hb ho5; have hcv6 := own_string (P := Tryd.prog) Tryd.underlying31 Tryd.underlying5 Tryd.underlying9 (Kd.own_of_R HO136.out)))
    go_ret
    exact ⟨by first | rfl | (simp [errW_none, errW_some] <;> rfl) | (simp [*, errW_none, errW_some] <;> rfl), by repeat (first | (with_reducible first | exact HB.out | apply below_alloc | apply pw_below_drewN | apply below_drew1) | exact HB.out)⟩
  · rw [if_neg c3] at H
    exact absurd H (by simp)

end Go.Proofs.YthmeagbfoccnlaaDoor.FA
