-- Written by wip/tools/myprint.py (a patched run of the kit's printer) out of the translation.
import Derived.Test.YtbnnmbajfmodjaaFAx0
import Derived.Test.YtbnnmbajfmodjaaFARef01
namespace Go.Proofs.Ytbnnmbajfmodjaa.FA
open Go.RowKit Go.Proofs.YtbnnmbajfmodjaaW.PrintWords Go.Proofs.YtbnnmbajfmodjaaW.PrintLast Go.Proofs.YtbnnmbajfmodjaaW.PrintMore
attribute [local go_sem] max2_int min2_int max_two min_two max_three min_three max_four min_four   -- for this text's walks alone
set_option linter.unusedVariables false
set_option linter.unusedSimpArgs false

/-! ### sextonref14_Bytes: function 21 -/
def sextonref14_Bytes.f (k : Nat) (a0 : Int) (a1 : Int) : Option (ByteArray) := (sextonref01_Num.f k a0 a1).bind fun bt174 => (some bt174.1)
theorem sextonref14_Bytes.mono : ∀ a0 a1 k, LeO (sextonref14_Bytes.f k a0 a1) (sextonref14_Bytes.f (k + 1) a0 a1) := by
  intro a0 a1 k
  unfold sextonref14_Bytes.f
  repeat' first
      | (with_reducible exact sextonref01_Num.mono _ _ _)
      | (with_reducible exact LeO.refl _)
      | (with_reducible exact LeO.none _)
      | (with_reducible refine LeO.ite ?_ ?_)
      | (with_reducible refine LeO.bind ?_ (fun _ => ?_))
      | exact sextonref01_Num.mono _ _ _
      | exact LeO.none _
      | refine LeO.ite ?_ ?_
      | refine LeO.bind ?_ (fun _ => ?_)
set_option maxHeartbeats 8000000 in
set_option maxRecDepth 100000 in
theorem sextonref14_Bytes.calls (k : Nat) (a0 : Int) (a1 : Int) (r : ByteArray) (w : World) (h : sextonref14_Bytes.f k a0 a1 = some r) :
    Calls Try.prog 21 #[.int .i64 a0, .int .i64 a1] w fun e w' => e = .returned (.string r) ∧ Below w.heap.size w w' := by
  have HB := Aside0.mk (Below.refl w.heap.size w)
  have H : ((sextonref01_Num.f k a0 a1).bind fun bt174 => (some bt174.1)) = some r := h
  clear h
  replace H := Option.bind_eq_some_iff.mp H
  obtain ⟨⟨t174, t175⟩, A30, H⟩ := H
  replace H : (some t174) = some r := H
  have A3 := Aside0.mk A30
  clear A30
  obtain rfl := Option.some.inj H
  go_enter Try.func21, Try.ntmps21
  go_wp2_with (first | ((with_reducible refine gate_callee (f := 43) rfl ?_); refine goesL_ (some 10) rfl rfl Try.func43 (by kernel_rfl) rfl #[.int .i64 a0, .int .i64 a1] rfl (by (try simp only [List.map_toArray, List.map_cons, List.map_nil]); first | done | rfl | (simp only [List.length_drop, List.length_take]; rfl)) ?_; (with_reducible refine (sextonref01_Num.calls k a0 a1 t174 t175 _ A3.out).mono ?_); rintro e w4 ⟨rfl, hb⟩; refine ⟨_, rfl, ?_⟩; have n0_ := Aside0.mk (below_step (by repeat (first | (with_reducible first | exact HB.out | apply below_alloc | apply pw_below_drewN | apply below_drew1) | exact HB.out)) hb); clear HB; have HB := n0_; clear n0_; (try clear hb); (try clear hb2); (try clear hk); (try clear hi)))
  go_ret
  exact ⟨by first | rfl | (simp [errW_none, errW_some] <;> rfl) | (simp [*, errW_none, errW_some] <;> rfl), by repeat (first | (with_reducible first | exact HB.out | apply below_alloc | apply pw_below_drewN | apply below_drew1) | exact HB.out)⟩

end Go.Proofs.Ytbnnmbajfmodjaa.FA
