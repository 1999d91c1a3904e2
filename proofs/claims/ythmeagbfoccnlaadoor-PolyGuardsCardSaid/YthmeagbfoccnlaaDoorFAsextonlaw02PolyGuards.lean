-- Written by wip/tools/myprint.py (a patched run of the kit's printer) out of the translation.
import Derived.Test.YthmeagbfoccnlaaDoorFAx0
import Derived.Test.YthmeagbfoccnlaaDoorFAsextonlaw02nine
import Derived.Test.YthmeagbfoccnlaaDoorFApolyUnguard
import Derived.Test.YthmeagbfoccnlaaDoorFAsextonref02Guard
import Derived.Test.YthmeagbfoccnlaaDoorFAsextonref02Unguard
import Derived.Test.YthmeagbfoccnlaaDoorFApolyGuard
namespace Go.Proofs.YthmeagbfoccnlaaDoor.FA
open Go.RowKit Go.Proofs.YthmeagbfoccnlaaDoorW.PrintWords Go.Proofs.YthmeagbfoccnlaaDoorW.PrintLast Go.Proofs.YthmeagbfoccnlaaDoorW.PrintMore
attribute [local go_sem] max2_int min2_int max_two min_two max_three min_three max_four min_four   -- for this text's walks alone
set_option linter.unusedVariables false
set_option linter.unusedSimpArgs false

/-! ### sextonlaw02_PolyGuards: function 6 -/
def sextonlaw02_PolyGuards.f (k : Nat) (a0 : ByteArray) : Option (Bool) := (poly_Unguard.f k a0).bind fun bt140 => ((sextonref02_Unguard.f k a0).bind fun bt142 => ((poly_Guard.f k a0).bind fun t144 => ((poly_Unguard.f k t144).bind fun bt145 => ((poly_Guard.f k a0).bind fun t147 => ((sextonref02_Guard.f k a0).bind fun t148 => (if t147.toList = t148.toList then (if bt140.1.toList = bt142.1.toList then (if bt140.2 = bt142.2 then (if bt145.2 = 0 then (if bt145.1.toList = a0.toList then ((sextonlaw02_nine.f k).bind fun t149 => (some t149)) else (none)) else (none)) else (none)) else (none)) else (none)))))))
theorem sextonlaw02_PolyGuards.mono : ∀ a0 k, LeO (sextonlaw02_PolyGuards.f k a0) (sextonlaw02_PolyGuards.f (k + 1) a0) := by
  intro a0 k
  unfold sextonlaw02_PolyGuards.f
  repeat' first
      | (with_reducible exact poly_Guard.mono _ _)
      | (with_reducible exact poly_Unguard.mono _ _)
      | (with_reducible exact sextonlaw02_nine.mono _)
      | (with_reducible exact sextonref02_Guard.mono _ _)
      | (with_reducible exact sextonref02_Unguard.mono _ _)
      | (with_reducible exact LeO.refl _)
      | (with_reducible exact LeO.none _)
      | (with_reducible refine LeO.ite ?_ ?_)
      | (with_reducible refine LeO.bind ?_ (fun _ => ?_))
      | exact poly_Guard.mono _ _
      | exact poly_Unguard.mono _ _
      | exact sextonlaw02_nine.mono _
      | exact sextonref02_Guard.mono _ _
      | exact sextonref02_Unguard.mono _ _
      | exact LeO.none _
      | refine LeO.ite ?_ ?_
      | refine LeO.bind ?_ (fun _ => ?_)
set_option maxHeartbeats 8000000 in
set_option maxRecDepth 100000 in
theorem sextonlaw02_PolyGuards.calls (k : Nat) (a0 : ByteArray) (r : Bool) (w : World) (hT : TabW w) (h : sextonlaw02_PolyGuards.f k a0 = some r) :
    Calls Tryd.prog 6 #[.string a0] w fun e w' => e = .returned (.bool r) ∧ Below w.heap.size w w' := by
  have HB := Aside0.mk (Below.refl w.heap.size w)
  have HT := Aside0.mk hT
  clear hT
  have H : ((poly_Unguard.f k a0).bind fun bt140 => ((sextonref02_Unguard.f k a0).bind fun bt142 => ((poly_Guard.f k a0).bind fun t144 => ((poly_Unguard.f k t144).bind fun bt145 => ((poly_Guard.f k a0).bind fun t147 => ((sextonref02_Guard.f k a0).bind fun t148 => (if t147.toList = t148.toList then (if bt140.1.toList = bt142.1.toList then (if bt140.2 = bt142.2 then (if bt145.2 = 0 then (if bt145.1.toList = a0.toList then ((sextonlaw02_nine.f k).bind fun t149 => (some t149)) else (none)) else (none)) else (none)) else (none)) else (none)))))))) = some r := h
  clear h
  replace H := Option.bind_eq_some_iff.mp H
  obtain ⟨⟨t140, t141⟩, A20, H⟩ := H
  replace H : ((sextonref02_Unguard.f k a0).bind fun bt142 => ((poly_Guard.f k a0).bind fun t144 => ((poly_Unguard.f k t144).bind fun bt145 => ((poly_Guard.f k a0).bind fun t147 => ((sextonref02_Guard.f k a0).bind fun t148 => (if t147.toList = t148.toList then (if t140.toList = bt142.1.toList then (if t141 = bt142.2 then (if bt145.2 = 0 then (if bt145.1.toList = a0.toList then ((sextonlaw02_nine.f k).bind fun t149 => (some t149)) else (none)) else (none)) else (none)) else (none)) else (none))))))) = some r := H
  have A2 := Aside0.mk A20
  clear A20
  replace H := Option.bind_eq_some_iff.mp H
  obtain ⟨⟨t142, t143⟩, A30, H⟩ := H
  replace H : ((poly_Guard.f k a0).bind fun t144 => ((poly_Unguard.f k t144).bind fun bt145 => ((poly_Guard.f k a0).bind fun t147 => ((sextonref02_Guard.f k a0).bind fun t148 => (if t147.toList = t148.toList then (if t140.toList = t142.toList then (if t141 = t143 then (if bt145.2 = 0 then (if bt145.1.toList = a0.toList then ((sextonlaw02_nine.f k).bind fun t149 => (some t149)) else (none)) else (none)) else (none)) else (none)) else (none)))))) = some r := H
  have A3 := Aside0.mk A30
  clear A30
  replace H := Option.bind_eq_some_iff.mp H
  obtain ⟨t144, A40, H⟩ := H
  replace H : ((poly_Unguard.f k t144).bind fun bt145 => ((poly_Guard.f k a0).bind fun t147 => ((sextonref02_Guard.f k a0).bind fun t148 => (if t147.toList = t148.toList then (if t140.toList = t142.toList then (if t141 = t143 then (if bt145.2 = 0 then (if bt145.1.toList = a0.toList then ((sextonlaw02_nine.f k).bind fun t149 => (some t149)) else (none)) else (none)) else (none)) else (none)) else (none))))) = some r := H
  have A4 := Aside0.mk A40
  clear A40
  replace H := Option.bind_eq_some_iff.mp H
  obtain ⟨⟨t145, t146⟩, A50, H⟩ := H
  replace H : ((poly_Guard.f k a0).bind fun t147 => ((sextonref02_Guard.f k a0).bind fun t148 => (if t147.toList = t148.toList then (if t140.toList = t142.toList then (if t141 = t143 then (if t146 = 0 then (if t145.toList = a0.toList then ((sextonlaw02_nine.f k).bind fun t149 => (some t149)) else (none)) else (none)) else (none)) else (none)) else (none)))) = some r := H
  have A5 := Aside0.mk A50
  clear A50
  replace H := Option.bind_eq_some_iff.mp H
  obtain ⟨t147, A60, H⟩ := H
  replace H : ((sextonref02_Guard.f k a0).bind fun t148 => (if t147.toList = t148.toList then (if t140.toList = t142.toList then (if t141 = t143 then (if t146 = 0 then (if t145.toList = a0.toList then ((sextonlaw02_nine.f k).bind fun t149 => (some t149)) else (none)) else (none)) else (none)) else (none)) else (none))) = some r := H
  have A6 := Aside0.mk A60
  clear A60
  replace H := Option.bind_eq_some_iff.mp H
  obtain ⟨t148, A70, H⟩ := H
  replace H : (if t147.toList = t148.toList then (if t140.toList = t142.toList then (if t141 = t143 then (if t146 = 0 then (if t145.toList = a0.toList then ((sextonlaw02_nine.f k).bind fun t149 => (some t149)) else (none)) else (none)) else (none)) else (none)) else (none)) = some r := H
  have A7 := Aside0.mk A70
  clear A70
  by_cases c8 : t147.toList = t148.toList
  · rw [if_pos c8] at H
    have c8b0 : (t147.toList == t148.toList) = true := beq_iff_eq.mpr c8
    have c8b1 : (t147.toList != t148.toList) = false := bne_eq_false_iff_eq.mpr c8
    clear c8
    by_cases c9 : t140.toList = t142.toList
    · rw [if_pos c9] at H
      have c9b0 : (t140.toList == t142.toList) = true := beq_iff_eq.mpr c9
      have c9b1 : (t140.toList != t142.toList) = false := bne_eq_false_iff_eq.mpr c9
      clear c9
      by_cases c10 : t141 = t143
      · rw [if_pos c10] at H
        have c10b0 : (t141 == t143) = true := beq_iff_eq.mpr c10
        have c10b1 : (t141 != t143) = false := bne_eq_false_iff_eq.mpr c10
        clear c10
        by_cases c11 : t146 = 0
        · rw [if_pos c11] at H
          have c11b0 : (t146 == 0) = true := beq_iff_eq.mpr c11
          have c11b1 : (t146 != 0) = false := bne_eq_false_iff_eq.mpr c11
          clear c11
          by_cases c12 : t145.toList = a0.toList
          · rw [if_pos c12] at H
            have c12b0 : (t145.toList == a0.toList) = true := beq_iff_eq.mpr c12
            have c12b1 : (t145.toList != a0.toList) = false := bne_eq_false_iff_eq.mpr c12
            clear c12
            replace H := Option.bind_eq_some_iff.mp H
            obtain ⟨t149, A130, H⟩ := H
            replace H : (some t149) = some r := H
            have A13 := Aside0.mk A130
            clear A130
            obtain rfl := Option.some.inj H
            go_enter Tryd.func6, Tryd.ntmps6
            go_wp2_with (first | ((with_reducible refine gate_callee (f := 12) rfl ?_); refine goesL_ (some 11) rfl rfl Tryd.func12 (by kernel_rfl) rfl #[.string a0] rfl (by (try simp only [List.map_toArray, List.map_cons, List.map_nil]); first | done | rfl | (simp only [List.length_drop, List.length_take]; rfl)) ?_; (with_reducible refine (poly_Unguard.calls k a0 t140 t141 _ ?side1 A2.out).mono ?_); (case side1 => exact HT.out.below (by repeat (first | (with_reducible first | exact HB.out | apply below_alloc | apply pw_below_drewN | apply below_drew1) | exact HB.out))); rintro e w14 ⟨rfl, hb⟩; refine ⟨_, rfl, ?_⟩; have n0_ := Aside0.mk (below_step (by repeat (first | (with_reducible first | exact HB.out | apply below_alloc | apply pw_below_drewN | apply below_drew1) | exact HB.out)) hb); clear HB; have HB := n0_; clear n0_; (try clear hb); (try clear hb2); (try clear hk); (try clear hi)) | ((with_reducible refine gate_callee (f := 13) rfl ?_); refine goesL_ (some 16) rfl rfl Tryd.func13 (by kernel_rfl) rfl #[.string a0] rfl (by (try simp only [List.map_toArray, List.map_cons, List.map_nil]); first | done | rfl | (simp only [List.length_drop, List.length_take]; rfl)) ?_; (with_reducible refine (sextonref02_Unguard.calls k a0 t142 t143 _ A3.out).mono ?_); rintro e w15 ⟨rfl, hb⟩; refine ⟨_, rfl, ?_⟩; have n0_ := Aside0.mk (below_step (by repeat (first | (with_reducible first | exact HB.out | apply below_alloc | apply pw_below_drewN | apply below_drew1) | exact HB.out)) hb); clear HB; have HB := n0_; clear n0_; (try clear hb); (try clear hb2); (try clear hk); (try clear hi)) | ((with_reducible refine gate_callee (f := 14) rfl ?_); refine goesL_ (some 21) rfl rfl Tryd.func14 (by kernel_rfl) rfl #[.string a0] rfl (by (try simp only [List.map_toArray, List.map_cons, List.map_nil]); first | done | rfl | (simp only [List.length_drop, List.length_take]; rfl)) ?_; (with_reducible refine (poly_Guard.calls k a0 t144 _ ?side1 A4.out).mono ?_); (case side1 => exact HT.out.below (by repeat (first | (with_reducible first | exact HB.out | apply below_alloc | apply pw_below_drewN | apply below_drew1) | exact HB.out))); rintro e w16 ⟨rfl, hb⟩; refine ⟨_, rfl, ?_⟩; have n0_ := Aside0.mk (below_step (by repeat (first | (with_reducible first | exact HB.out | apply below_alloc | apply pw_below_drewN | apply below_drew1) | exact HB.out)) hb); clear HB; have HB := n0_; clear n0_; (try clear hb); (try clear hb2); (try clear hk); (try clear hi)) | ((with_reducible refine gate_callee (f := 12) rfl ?_); refine goesL_ (some 22) rfl rfl Tryd.func12 (by kernel_rfl) rfl #[.string t144] rfl (by (try simp only [List.map_toArray, List.map_cons, List.map_nil]); first | done | rfl | (simp only [List.length_drop, List.length_take]; rfl)) ?_; (with_reducible refine (poly_Unguard.calls k t144 t145 t146 _ ?side1 A5.out).mono ?_); (case side1 => exact HT.out.below (by repeat (first | (with_reducible first | exact HB.out | apply below_alloc | apply pw_below_drewN | apply below_drew1) | exact HB.out))); rintro e w17 ⟨rfl, hb⟩; refine ⟨_, rfl, ?_⟩; have n0_ := Aside0.mk (below_step (by repeat (first | (with_reducible first | exact HB.out | apply below_alloc | apply pw_below_drewN | apply below_drew1) | exact HB.out)) hb); clear HB; have HB := n0_; clear n0_; (try clear hb); (try clear hb2); (try clear hk); (try clear hi)) | ((with_reducible refine gate_callee (f := 14) rfl ?_); refine goesL_ (some 26) rfl rfl Tryd.func14 (by kernel_rfl) rfl #[.string a0] rfl (by (try simp only [List.map_toArray, List.map_cons, List.map_nil]); first | done | rfl | (simp only [List.length_drop, List.length_take]; rfl)) ?_; (with_reducible refine (poly_Guard.calls k a0 t147 _ ?side1 A6.out).mono ?_); (case side1 => exact HT.out.below (by repeat (first | (with_reducible first | exact HB.out | apply below_alloc | apply pw_below_drewN | apply below_drew1) | exact HB.out))); rintro e w18 ⟨rfl, hb⟩; refine ⟨_, rfl, ?_⟩; have n0_ := Aside0.mk (below_step (by repeat (first | (with_reducible first | exact HB.out | apply below_alloc | apply pw_below_drewN | apply below_drew1) | exact HB.out)) hb); clear HB; have HB := n0_; clear n0_; (try clear hb); (try clear hb2); (try clear hk); (try clear hi)) | ((with_reducible refine gate_callee (f := 15) rfl ?_); refine goesL_ (some 28) rfl rfl Tryd.func15 (by kernel_rfl) rfl #[.string a0] rfl (by (try simp only [List.map_toArray, List.map_cons, List.map_nil]); first | done | rfl | (simp only [List.length_drop, List.length_take]; rfl)) ?_; (with_reducible refine (sextonref02_Guard.calls k a0 t148 _ A7.out).mono ?_); rintro e w19 ⟨rfl, hb⟩; refine ⟨_, rfl, ?_⟩; have n0_ := Aside0.mk (below_step (by repeat (first | (with_reducible first | exact HB.out | apply below_alloc | apply pw_below_drewN | apply below_drew1) | exact HB.out)) hb); clear HB; have HB := n0_; clear n0_; (try clear hb); (try clear hb2); (try clear hk); (try clear hi)) | (go_at_call 9; (with_reducible refine (sextonlaw02_nine.calls k  t149 _ ?side1 A13.out).mono ?_); (case side1 => exact HT.out.below (by repeat (first | (with_reducible first | exact HB.out | apply below_alloc | apply pw_below_drewN | apply below_drew1) | exact HB.out))); rintro e w' ⟨rfl, ⟨nd, rfl⟩⟩))
            go_ret
            exact ⟨by first | rfl | (simp [errW_none, errW_some] <;> rfl) | (simp [*, errW_none, errW_some] <;> rfl), by repeat (first | (with_reducible first | exact HB.out | apply below_alloc | apply pw_below_drewN | apply below_drew1) | exact HB.out)⟩
          · rw [if_neg c12] at H
            exact absurd H (by simp)
        · rw [if_neg c11] at H
          exact absurd H (by simp)
      · rw [if_neg c10] at H
        exact absurd H (by simp)
    · rw [if_neg c9] at H
      exact absurd H (by simp)
  · rw [if_neg c8] at H
    exact absurd H (by simp)

end Go.Proofs.YthmeagbfoccnlaaDoor.FA
