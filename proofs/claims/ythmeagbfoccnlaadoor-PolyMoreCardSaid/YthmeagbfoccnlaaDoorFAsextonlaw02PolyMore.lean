-- Written by wip/tools/myprint.py (a patched run of the kit's printer) out of the translation.
import Derived.Test.YthmeagbfoccnlaaDoorFAx0
import Derived.Test.YthmeagbfoccnlaaDoorFApolyMore
import Derived.Test.YthmeagbfoccnlaaDoorFApolySum
import Derived.Test.YthmeagbfoccnlaaDoorFAsextonref02Sum
import Derived.Test.YthmeagbfoccnlaaDoorFAsextonlaw02nine
import Derived.Test.YthmeagbfoccnlaaDoorFAsextonref02More
namespace Go.Proofs.YthmeagbfoccnlaaDoor.FA
open Go.RowKit Go.Proofs.YthmeagbfoccnlaaDoorW.PrintWords Go.Proofs.YthmeagbfoccnlaaDoorW.PrintLast Go.Proofs.YthmeagbfoccnlaaDoorW.PrintMore
attribute [local go_sem] max2_int min2_int max_two min_two max_three min_three max_four min_four   -- for this text's walks alone
set_option linter.unusedVariables false
set_option linter.unusedSimpArgs false

/-! ### sextonlaw02_PolyMore: function 4 -/
def sextonlaw02_PolyMore.f (k : Nat) (a0 : Int) (a1 : ByteArray) (a2 : ByteArray) : Option (Bool) := (poly_More.f k a0 a1).bind fun bt111 => ((sextonref02_More.f k a0 a1).bind fun bt113 => ((poly_Sum.f k a1).bind fun t115 => ((poly_More.f k t115 a2).bind fun bt116 => (if bt111.1 = bt113.1 then (if bt111.2 = bt113.2 then (if bt116.2 = 0 then (if a1.size + a2.size ≤ 9223372036854775807 then ((sextonref02_Sum.f k (a1 ++ a2)).bind fun t118 => (if bt116.1 = t118 then ((sextonlaw02_nine.f k).bind fun t119 => (some t119)) else (none))) else (none)) else (none)) else (none)) else (none)))))
theorem sextonlaw02_PolyMore.mono : ∀ a0 a1 a2 k, LeO (sextonlaw02_PolyMore.f k a0 a1 a2) (sextonlaw02_PolyMore.f (k + 1) a0 a1 a2) := by
  intro a0 a1 a2 k
  unfold sextonlaw02_PolyMore.f
  repeat' first
      | (with_reducible exact poly_More.mono _ _ _)
      | (with_reducible exact poly_Sum.mono _ _)
      | (with_reducible exact sextonlaw02_nine.mono _)
      | (with_reducible exact sextonref02_More.mono _ _ _)
      | (with_reducible exact sextonref02_Sum.mono _ _)
      | (with_reducible exact LeO.refl _)
      | (with_reducible exact LeO.none _)
      | (with_reducible refine LeO.ite ?_ ?_)
      | (with_reducible refine LeO.bind ?_ (fun _ => ?_))
      | exact poly_More.mono _ _ _
      | exact poly_Sum.mono _ _
      | exact sextonlaw02_nine.mono _
      | exact sextonref02_More.mono _ _ _
      | exact sextonref02_Sum.mono _ _
      | exact LeO.none _
      | refine LeO.ite ?_ ?_
      | refine LeO.bind ?_ (fun _ => ?_)
set_option maxHeartbeats 8000000 in
set_option maxRecDepth 100000 in
theorem sextonlaw02_PolyMore.calls (k : Nat) (a0 : Int) (a1 : ByteArray) (a2 : ByteArray) (r : Bool) (w : World) (hT : TabW w) (h : sextonlaw02_PolyMore.f k a0 a1 a2 = some r) :
    Calls Tryd.prog 4 #[.int .i64 a0, .string a1, .string a2] w fun e w' => e = .returned (.bool r) ∧ Drawn0 w w' := by
  have HT := Aside0.mk hT
  clear hT
  have H : ((poly_More.f k a0 a1).bind fun bt111 => ((sextonref02_More.f k a0 a1).bind fun bt113 => ((poly_Sum.f k a1).bind fun t115 => ((poly_More.f k t115 a2).bind fun bt116 => (if bt111.1 = bt113.1 then (if bt111.2 = bt113.2 then (if bt116.2 = 0 then (if a1.size + a2.size ≤ 9223372036854775807 then ((sextonref02_Sum.f k (a1 ++ a2)).bind fun t118 => (if bt116.1 = t118 then ((sextonlaw02_nine.f k).bind fun t119 => (some t119)) else (none))) else (none)) else (none)) else (none)) else (none)))))) = some r := h
  clear h
  replace H := Option.bind_eq_some_iff.mp H
  obtain ⟨⟨t111, t112⟩, A40, H⟩ := H
  replace H : ((sextonref02_More.f k a0 a1).bind fun bt113 => ((poly_Sum.f k a1).bind fun t115 => ((poly_More.f k t115 a2).bind fun bt116 => (if t111 = bt113.1 then (if t112 = bt113.2 then (if bt116.2 = 0 then (if a1.size + a2.size ≤ 9223372036854775807 then ((sextonref02_Sum.f k (a1 ++ a2)).bind fun t118 => (if bt116.1 = t118 then ((sextonlaw02_nine.f k).bind fun t119 => (some t119)) else (none))) else (none)) else (none)) else (none)) else (none))))) = some r := H
  have A4 := Aside0.mk A40
  clear A40
  replace H := Option.bind_eq_some_iff.mp H
  obtain ⟨⟨t113, t114⟩, A50, H⟩ := H
  replace H : ((poly_Sum.f k a1).bind fun t115 => ((poly_More.f k t115 a2).bind fun bt116 => (if t111 = t113 then (if t112 = t114 then (if bt116.2 = 0 then (if a1.size + a2.size ≤ 9223372036854775807 then ((sextonref02_Sum.f k (a1 ++ a2)).bind fun t118 => (if bt116.1 = t118 then ((sextonlaw02_nine.f k).bind fun t119 => (some t119)) else (none))) else (none)) else (none)) else (none)) else (none)))) = some r := H
  have A5 := Aside0.mk A50
  clear A50
  replace H := Option.bind_eq_some_iff.mp H
  obtain ⟨t115, A60, H⟩ := H
  replace H : ((poly_More.f k t115 a2).bind fun bt116 => (if t111 = t113 then (if t112 = t114 then (if bt116.2 = 0 then (if a1.size + a2.size ≤ 9223372036854775807 then ((sextonref02_Sum.f k (a1 ++ a2)).bind fun t118 => (if bt116.1 = t118 then ((sextonlaw02_nine.f k).bind fun t119 => (some t119)) else (none))) else (none)) else (none)) else (none)) else (none))) = some r := H
  have A6 := Aside0.mk A60
  clear A60
  replace H := Option.bind_eq_some_iff.mp H
  obtain ⟨⟨t116, t117⟩, A70, H⟩ := H
  replace H : (if t111 = t113 then (if t112 = t114 then (if t117 = 0 then (if a1.size + a2.size ≤ 9223372036854775807 then ((sextonref02_Sum.f k (a1 ++ a2)).bind fun t118 => (if t116 = t118 then ((sextonlaw02_nine.f k).bind fun t119 => (some t119)) else (none))) else (none)) else (none)) else (none)) else (none)) = some r := H
  have A7 := Aside0.mk A70
  clear A70
  by_cases c8 : t111 = t113
  · rw [if_pos c8] at H
    have c8b0 : (t111 == t113) = true := beq_iff_eq.mpr c8
    have c8b1 : (t111 != t113) = false := bne_eq_false_iff_eq.mpr c8
    clear c8
    by_cases c9 : t112 = t114
    · rw [if_pos c9] at H
      have c9b0 : (t112 == t114) = true := beq_iff_eq.mpr c9
      have c9b1 : (t112 != t114) = false := bne_eq_false_iff_eq.mpr c9
      clear c9
      by_cases c10 : t117 = 0
      · rw [if_pos c10] at H
        have c10b0 : (t117 == 0) = true := beq_iff_eq.mpr c10
        have c10b1 : (t117 != 0) = false := bne_eq_false_iff_eq.mpr c10
        clear c10
        by_cases c11 : a1.size + a2.size ≤ 9223372036854775807
        · rw [if_pos c11] at H
          have c11b0 := eq_true c11
          have c11b1 : decide (a1.size + a2.size ≤ 9223372036854775807) = true := decide_eq_true c11
          try have c11b2 : (9223372036854775807 < a1.size + a2.size) = False := eq_false (Nat.not_lt.2 c11)
          replace H := Option.bind_eq_some_iff.mp H
          obtain ⟨t118, A120, H⟩ := H
          replace H : (if t116 = t118 then ((sextonlaw02_nine.f k).bind fun t119 => (some t119)) else (none)) = some r := H
          have A12 := Aside0.mk A120
          clear A120
          by_cases c13 : t116 = t118
          · rw [if_pos c13] at H
            have c13b0 : (t116 == t118) = true := beq_iff_eq.mpr c13
            have c13b1 : (t116 != t118) = false := bne_eq_false_iff_eq.mpr c13
            clear c13
            replace H := Option.bind_eq_some_iff.mp H
            obtain ⟨t119, A140, H⟩ := H
            replace H : (some t119) = some r := H
            have A14 := Aside0.mk A140
            clear A140
            obtain rfl := Option.some.inj H
            go_enter Tryd.func4, Tryd.ntmps4
            go_wp2_with (first | ((with_reducible refine gate_callee (f := 10) rfl ?_); refine goesL_ (some 16) rfl rfl Tryd.func10 (by kernel_rfl) rfl #[.int .i64 a0, .string a1] rfl (by (try simp only [List.map_toArray, List.map_cons, List.map_nil]); first | done | rfl | (simp only [List.length_drop, List.length_take]; rfl)) ?_; (with_reducible refine (poly_More.calls k a0 a1 t111 t112 _ ?side1 A4.out).mono ?_); (case side1 => (repeat (first | exact HT.out | apply TabW.drewN | apply TabW.drew))); rintro e w' ⟨rfl, ⟨nd, rfl⟩⟩; refine ⟨_, rfl, ?_⟩) | ((with_reducible refine gate_callee (f := 11) rfl ?_); refine goesL_ (some 22) rfl rfl Tryd.func11 (by kernel_rfl) rfl #[.int .i64 a0, .string a1] rfl (by (try simp only [List.map_toArray, List.map_cons, List.map_nil]); first | done | rfl | (simp only [List.length_drop, List.length_take]; rfl)) ?_; (with_reducible refine (sextonref02_More.calls k a0 a1 t113 t114 _ A5.out).mono ?_); rintro e w' ⟨rfl, ⟨nd, rfl⟩⟩; refine ⟨_, rfl, ?_⟩) | ((with_reducible refine gate_callee (f := 7) rfl ?_); refine goesL_ (some 27) rfl rfl Tryd.func7 (by kernel_rfl) rfl #[.string a1] rfl (by (try simp only [List.map_toArray, List.map_cons, List.map_nil]); first | done | rfl | (simp only [List.length_drop, List.length_take]; rfl)) ?_; (with_reducible refine (poly_Sum.calls k a1 t115 _ ?side1 A6.out).mono ?_); (case side1 => (repeat (first | exact HT.out | apply TabW.drewN | apply TabW.drew))); rintro e w' ⟨rfl, ⟨nd, rfl⟩⟩; refine ⟨_, rfl, ?_⟩) | ((with_reducible refine gate_callee (f := 10) rfl ?_); refine goesL_ (some 29) rfl rfl Tryd.func10 (by kernel_rfl) rfl #[.int .i64 t115, .string a2] rfl (by (try simp only [List.map_toArray, List.map_cons, List.map_nil]); first | done | rfl | (simp only [List.length_drop, List.length_take]; rfl)) ?_; (with_reducible refine (poly_More.calls k t115 a2 t116 t117 _ ?side1 A7.out).mono ?_); (case side1 => (repeat (first | exact HT.out | apply TabW.drewN | apply TabW.drew))); rintro e w' ⟨rfl, ⟨nd, rfl⟩⟩; refine ⟨_, rfl, ?_⟩) | (go_at_call 8; (with_reducible refine (sextonref02_Sum.calls k (a1 ++ a2) t118 _ A12.out).mono ?_); rintro e w' ⟨rfl, ⟨nd, rfl⟩⟩) | (go_at_call 9; (with_reducible refine (sextonlaw02_nine.calls k  t119 _ ?side1 A14.out).mono ?_); (case side1 => (repeat (first | exact HT.out | apply TabW.drewN | apply TabW.drew))); rintro e w' ⟨rfl, ⟨nd, rfl⟩⟩))
            go_ret
            exact ⟨by first | rfl | (simp; done) | (simp [*]; done), by repeat (first | exact Drawn0.refl _ | apply Drawn0.step)⟩
          · rw [if_neg c13] at H
            exact absurd H (by simp)
        · rw [if_neg c11] at H
          exact absurd H (by simp)
      · rw [if_neg c10] at H
        exact absurd H (by simp)
    · rw [if_neg c9] at H
      exact absurd H (by simp)
  · rw [if_neg c8] at H
    exact absurd H (by simp)

end Go.Proofs.YthmeagbfoccnlaaDoor.FA
