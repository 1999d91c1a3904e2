-- Written by wip/tools/myprint.py (a patched run of the kit's printer) out of the translation.
import Derived.Test.YtnpgplgbnmphdaaFAx0
namespace Go.Proofs.Ytnpgplgbnmphdaa.FA
open Go.RowKit Go.Proofs.YtnpgplgbnmphdaaW.PrintWords Go.Proofs.YtnpgplgbnmphdaaW.PrintLast Go.Proofs.YtnpgplgbnmphdaaW.PrintMore
attribute [local go_sem] max2_int min2_int max_two min_two max_three min_three max_four min_four   -- for this text's walks alone
set_option linter.unusedVariables false
set_option linter.unusedSimpArgs false

/-! ### sextonref01_Unpack: function 23 -/
def sextonref01_Unpack.l0 : Nat → ByteArray → List (S60) → Int → Int → Option ((List (S60)) × Int)
  | 0, _, _, _, _ => none
  | k + 1, x0, x4, x5, x6 => if x6 < (x0.size : Int) then (if (wrap64 ((x0.size : Int) - x6)) < 3 then (some (([] : List (S60)), 10)) else (if 0 ≤ x6 then (if (wrap64 (bt x0 x6)) = 0 then (some (([] : List (S60)), 4)) else (if (wrap64 (bt x0 x6)) < x5 then (some (([] : List (S60)), 11)) else (if 0 ≤ (wrap64 (x6 + 1)) then (if (wrap64 (x6 + 1)) < (x0.size : Int) then (if 0 ≤ (wrap64 (x6 + 2)) then (if (wrap64 (x6 + 2)) < (x0.size : Int) then (if (wrap64 ((wrap64 ((x0.size : Int) - x6)) - 3)) < (wrap64 ((wrap64 (256 * (wrap64 (bt x0 (wrap64 (x6 + 1)))))) + (wrap64 (bt x0 (wrap64 (x6 + 2)))))) then (some (([] : List (S60)), 10)) else (if 0 ≤ (wrap64 (x6 + 3)) then (if (wrap64 (x6 + 3)) ≤ (wrap64 ((wrap64 (x6 + 3)) + (wrap64 ((wrap64 (256 * (wrap64 (bt x0 (wrap64 (x6 + 1)))))) + (wrap64 (bt x0 (wrap64 (x6 + 2)))))))) then (if (wrap64 ((wrap64 (x6 + 3)) + (wrap64 ((wrap64 (256 * (wrap64 (bt x0 (wrap64 (x6 + 1)))))) + (wrap64 (bt x0 (wrap64 (x6 + 2)))))))) ≤ (x0.size : Int) then (if x4.length < 5864062014805 then (sextonref01_Unpack.l0 k x0 (x4 ++ [(⟨wrap64 (bt x0 x6), x0.extract ((wrap64 (x6 + 3)) : Int).toNat ((wrap64 ((wrap64 (x6 + 3)) + (wrap64 ((wrap64 (256 * (wrap64 (bt x0 (wrap64 (x6 + 1)))))) + (wrap64 (bt x0 (wrap64 (x6 + 2)))))))) : Int).toNat⟩ : S60)]) (wrap64 (bt x0 x6)) (wrap64 ((wrap64 (x6 + 3)) + (wrap64 ((wrap64 (256 * (wrap64 (bt x0 (wrap64 (x6 + 1)))))) + (wrap64 (bt x0 (wrap64 (x6 + 2))))))))) else (none)) else (none)) else (none)) else (none))) else (none)) else (none)) else (none)) else (none)))) else (none))) else (some (x4, 0))
def sextonref01_Unpack.f (k : Nat) (a0 : ByteArray) : Option ((List (S60)) × Int) := sextonref01_Unpack.l0 k a0 ([] : List (S60)) 1 0
theorem sextonref01_Unpack.mono_l : ∀ k, (∀ y0 y1 y2 y3, LeO (sextonref01_Unpack.l0 k y0 y1 y2 y3) (sextonref01_Unpack.l0 (k + 1) y0 y1 y2 y3))
  | 0 => fun _ _ _ _ r h => by simp [sextonref01_Unpack.l0] at h
  | k + 1 => by
    have ih0 := sextonref01_Unpack.mono_l k
    · intro y0 y1 y2 y3
      unfold sextonref01_Unpack.l0
      repeat' first
      | (with_reducible exact ih0 _ _ _ _)
      | (with_reducible exact LeO.refl _)
      | (with_reducible exact LeO.none _)
      | (with_reducible refine LeO.ite ?_ ?_)
      | (with_reducible refine LeO.bind ?_ (fun _ => ?_))
      | exact ih0 _ _ _ _
      | exact LeO.none _
      | refine LeO.ite ?_ ?_
      | refine LeO.bind ?_ (fun _ => ?_)
theorem sextonref01_Unpack.mono : ∀ a0 k, LeO (sextonref01_Unpack.f k a0) (sextonref01_Unpack.f (k + 1) a0) := by
  intro a0 k
  have ih0 := sextonref01_Unpack.mono_l k
  unfold sextonref01_Unpack.f
  repeat' first
      | (with_reducible exact ih0 _ _ _ _)
      | (with_reducible exact LeO.refl _)
      | (with_reducible exact LeO.none _)
      | (with_reducible refine LeO.ite ?_ ?_)
      | (with_reducible refine LeO.bind ?_ (fun _ => ?_))
      | exact ih0 _ _ _ _
      | exact LeO.none _
      | refine LeO.ite ?_ ?_
      | refine LeO.bind ?_ (fun _ => ?_)
set_option maxHeartbeats 8000000 in
set_option maxRecDepth 100000 in
theorem sextonref01_Unpack.calls (k : Nat) (a0 : ByteArray) (r1 : List (S60)) (r2 : Int) (w : World) (h : sextonref01_Unpack.f k a0 = some (r1, r2)) :
    Calls Try.prog 23 #[.string a0] w fun e w' => ∃ v0_ : Value, e = .returned (.tuple #[v0_, .int .i64 r2]) ∧ Kd.R k60 60 w' w.heap.size (fun _ => True) v0_ r1 ∧ Below w.heap.size w w' := by
  have hu60 := Try.underlying60
  have HB := Aside0.mk (Below.refl w.heap.size w)
  have H : (sextonref01_Unpack.l0 k a0 ([] : List (S60)) 1 0) = some (r1, r2) := h
  clear h
  have H' := Aside0.mk H
  clear H
  go_enter Try.func23, Try.ntmps23
  go_wp2
  repeat (go_quiet (fail); try go_wp2)
  go_loopg [4, 5, 6] k (fun kq v4 v5 v6 w' => ∃ (x4_1 : List (S60)) (x5_1 : Int) (x6_1 : Int), v5 = .int .i64 x5_1 ∧ v6 = .int .i64 x6_1 ∧ Aside0 (sextonref01_Unpack.l0 kq a0 x4_1 x5_1 x6_1 = some (r1, r2)) ∧ Aside0 (kq ≤ k) ∧ Aside0 (Kd.R k60 60 w' w.heap.size (fun _ => True) v4 x4_1) ∧ Aside0 (Below w.heap.size w w'))
  case atStart => exact ⟨(([] : List (S60))), (1), (0), (by first | rfl | (simp; done) | (simp [*]; done)), (by first | rfl | (simp; done) | (simp [*]; done)), H', ⟨Nat.le_refl _⟩, ⟨by first | exact Kd.R_nil _ _ _ _ _ | exact Kd.N_nil _ _ _ _ _ | exact Kd.V_nil _ _ _ _ _ | exact Kd.Q_nil _ _ _ _ _ | exact Kd.S_nil _ _ _ _ _⟩, ⟨by repeat (first | (with_reducible first | exact HB.out | apply below_alloc | apply pw_below_drewN | apply below_drew1) | exact HB.out)⟩⟩
  case round =>
    clear H'
    obtain ⟨x4_1, x5_1, x6_1, rfl, rfl, HA, HK1, HO_4, HB⟩ := hrel
    cases gk with
    | zero => exact absurd HA.out (by simp [sextonref01_Unpack.l0])
    | succ k1 =>
      have H := HA.out
      clear HA
      simp only [sextonref01_Unpack.l0] at H
      by_cases c2 : x6_1 < (a0.size : Int)
      · rw [if_pos c2] at H
        have c2b0 : decide (x6_1 < (a0.size : Int)) = true := decide_eq_true c2
        clear c2
        by_cases c3 : (wrap64 ((a0.size : Int) - x6_1)) < 3
        · rw [if_pos c3] at H
          have c3b0 : decide ((wrap64 ((a0.size : Int) - x6_1)) < 3) = true := decide_eq_true c3
          clear c3
          simp only [Option.some.injEq, Prod.mk.injEq] at H
          obtain ⟨rfl, rfl⟩ := H
          go_wp2
          repeat (go_quiet (fail); try go_wp2)
          go_ret2
          exact ⟨_, by first | rfl | (simp [errW_none, errW_some] <;> rfl) | (simp [*, errW_none, errW_some] <;> rfl), by first | exact Kd.R_nil _ _ _ _ _ | exact Kd.N_nil _ _ _ _ _ | exact Kd.V_nil _ _ _ _ _ | exact Kd.Q_nil _ _ _ _ _ | exact Kd.S_nil _ _ _ _ _, by repeat (first | (with_reducible first | exact HB.out | apply below_alloc | apply pw_below_drewN | apply below_drew1) | exact HB.out)⟩
        · rw [if_neg c3] at H
          have c3b0 : decide ((wrap64 ((a0.size : Int) - x6_1)) < 3) = false := decide_eq_false c3
          clear c3
          by_cases c4 : 0 ≤ x6_1
          · rw [if_pos c4] at H
            have c4b0 : decide (0 ≤ x6_1) = true := decide_eq_true c4
            clear c4
            by_cases c6 : (wrap64 (bt a0 x6_1)) = 0
            · rw [if_pos c6] at H
              have c6b0 : ((wrap64 (bt a0 x6_1)) == 0) = true := beq_iff_eq.mpr c6
              have c6b1 : ((wrap64 (bt a0 x6_1)) != 0) = false := bne_eq_false_iff_eq.mpr c6
              clear c6
              simp only [Option.some.injEq, Prod.mk.injEq] at H
              obtain ⟨rfl, rfl⟩ := H
              have p5 : 0 ≤ (x6_1 : Int) := of_decide_eq_true (by first | (with_reducible assumption) | assumption)
              have q5 : x6_1 < (a0.size : Int) := of_decide_eq_true (by first | (with_reducible assumption) | assumption)
              have hx5 := bt_at a0 x6_1
              replace p5 := eq_true p5
              replace q5 := eq_true q5
              go_wp2
              repeat (go_quiet (fail); try go_wp2)
              go_ret2
              exact ⟨_, by first | rfl | (simp [errW_none, errW_some] <;> rfl) | (simp [*, errW_none, errW_some] <;> rfl), by first | exact Kd.R_nil _ _ _ _ _ | exact Kd.N_nil _ _ _ _ _ | exact Kd.V_nil _ _ _ _ _ | exact Kd.Q_nil _ _ _ _ _ | exact Kd.S_nil _ _ _ _ _, by repeat (first | (with_reducible first | exact HB.out | apply below_alloc | apply pw_below_drewN | apply below_drew1) | exact HB.out)⟩
            · rw [if_neg c6] at H
              have c6b0 : ((wrap64 (bt a0 x6_1)) == 0) = false := beq_eq_false_iff_ne.mpr c6
              have c6b1 : ((wrap64 (bt a0 x6_1)) != 0) = true := bne_iff_ne.mpr c6
              by_cases c7 : (wrap64 (bt a0 x6_1)) < x5_1
              · rw [if_pos c7] at H
                have c7b0 : decide ((wrap64 (bt a0 x6_1)) < x5_1) = true := decide_eq_true c7
                clear c7
                simp only [Option.some.injEq, Prod.mk.injEq] at H
                obtain ⟨rfl, rfl⟩ := H
                have p5 : 0 ≤ (x6_1 : Int) := of_decide_eq_true (by first | (with_reducible assumption) | assumption)
                have q5 : x6_1 < (a0.size : Int) := of_decide_eq_true (by first | (with_reducible assumption) | assumption)
                have hx5 := bt_at a0 x6_1
                replace p5 := eq_true p5
                replace q5 := eq_true q5
                go_wp2
                repeat (go_quiet (fail); try go_wp2)
                go_ret2
                exact ⟨_, by first | rfl | (simp [errW_none, errW_some] <;> rfl) | (simp [*, errW_none, errW_some] <;> rfl), by first | exact Kd.R_nil _ _ _ _ _ | exact Kd.N_nil _ _ _ _ _ | exact Kd.V_nil _ _ _ _ _ | exact Kd.Q_nil _ _ _ _ _ | exact Kd.S_nil _ _ _ _ _, by repeat (first | (with_reducible first | exact HB.out | apply below_alloc | apply pw_below_drewN | apply below_drew1) | exact HB.out)⟩
              · rw [if_neg c7] at H
                have c7b0 : decide ((wrap64 (bt a0 x6_1)) < x5_1) = false := decide_eq_false c7
                clear c7
                obtain ⟨ji8, hji8⟩ : ∃ j_ : Int, (wrap64 (x6_1 + 1)) = j_ := ⟨_, rfl⟩
                replace H : (if 0 ≤ (ji8) then (if (ji8) < (a0.size : Int) then (if 0 ≤ (wrap64 (x6_1 + 2)) then (if (wrap64 (x6_1 + 2)) < (a0.size : Int) then (if (wrap64 ((wrap64 ((a0.size : Int) - x6_1)) - 3)) < (wrap64 ((wrap64 (256 * (wrap64 (bt a0 (ji8))))) + (wrap64 (bt a0 (wrap64 (x6_1 + 2)))))) then (some (([] : List (S60)), 10)) else (if 0 ≤ (wrap64 (x6_1 + 3)) then (if (wrap64 (x6_1 + 3)) ≤ (wrap64 ((wrap64 (x6_1 + 3)) + (wrap64 ((wrap64 (256 * (wrap64 (bt a0 (ji8))))) + (wrap64 (bt a0 (wrap64 (x6_1 + 2)))))))) then (if (wrap64 ((wrap64 (x6_1 + 3)) + (wrap64 ((wrap64 (256 * (wrap64 (bt a0 (ji8))))) + (wrap64 (bt a0 (wrap64 (x6_1 + 2)))))))) ≤ (a0.size : Int) then (if x4_1.length < 5864062014805 then (sextonref01_Unpack.l0 k1 a0 (x4_1 ++ [(⟨wrap64 (bt a0 x6_1), a0.extract ((wrap64 (x6_1 + 3)) : Int).toNat ((wrap64 ((wrap64 (x6_1 + 3)) + (wrap64 ((wrap64 (256 * (wrap64 (bt a0 (ji8))))) + (wrap64 (bt a0 (wrap64 (x6_1 + 2)))))))) : Int).toNat⟩ : S60)]) (wrap64 (bt a0 x6_1)) (wrap64 ((wrap64 (x6_1 + 3)) + (wrap64 ((wrap64 (256 * (wrap64 (bt a0 (ji8))))) + (wrap64 (bt a0 (wrap64 (x6_1 + 2))))))))) else (none)) else (none)) else (none)) else (none))) else (none)) else (none)) else (none)) else (none)) = some (r1, r2) := by first | (rw [hji8] at H; exact H) | (simp only [hji8] at H ⊢; exact H)
                have hji8w : (IntKind.i64.wrap (x6_1 + 1)) = ji8 := (i64_w _).trans hji8
                by_cases c9 : 0 ≤ (ji8)
                · rw [if_pos c9] at H
                  have c9b0 : decide (0 ≤ (ji8)) = true := decide_eq_true c9
                  clear c9
                  by_cases c10 : (ji8) < (a0.size : Int)
                  · rw [if_pos c10] at H
                    have c10b0 : decide ((ji8) < (a0.size : Int)) = true := decide_eq_true c10
                    clear c10
                    obtain ⟨ji12, hji12⟩ : ∃ j_ : Int, (wrap64 (x6_1 + 2)) = j_ := ⟨_, rfl⟩
                    replace H : (if 0 ≤ (ji12) then (if (ji12) < (a0.size : Int) then (if (wrap64 ((wrap64 ((a0.size : Int) - x6_1)) - 3)) < (wrap64 ((wrap64 (256 * (wrap64 (bt a0 (ji8))))) + (wrap64 (bt a0 (ji12))))) then (some (([] : List (S60)), 10)) else (if 0 ≤ (wrap64 (x6_1 + 3)) then (if (wrap64 (x6_1 + 3)) ≤ (wrap64 ((wrap64 (x6_1 + 3)) + (wrap64 ((wrap64 (256 * (wrap64 (bt a0 (ji8))))) + (wrap64 (bt a0 (ji12))))))) then (if (wrap64 ((wrap64 (x6_1 + 3)) + (wrap64 ((wrap64 (256 * (wrap64 (bt a0 (ji8))))) + (wrap64 (bt a0 (ji12))))))) ≤ (a0.size : Int) then (if x4_1.length < 5864062014805 then (sextonref01_Unpack.l0 k1 a0 (x4_1 ++ [(⟨wrap64 (bt a0 x6_1), a0.extract ((wrap64 (x6_1 + 3)) : Int).toNat ((wrap64 ((wrap64 (x6_1 + 3)) + (wrap64 ((wrap64 (256 * (wrap64 (bt a0 (ji8))))) + (wrap64 (bt a0 (ji12))))))) : Int).toNat⟩ : S60)]) (wrap64 (bt a0 x6_1)) (wrap64 ((wrap64 (x6_1 + 3)) + (wrap64 ((wrap64 (256 * (wrap64 (bt a0 (ji8))))) + (wrap64 (bt a0 (ji12)))))))) else (none)) else (none)) else (none)) else (none))) else (none)) else (none)) = some (r1, r2) := by first | (rw [hji12] at H; exact H) | (simp only [hji12] at H ⊢; exact H)
                    have hji12w : (IntKind.i64.wrap (x6_1 + 2)) = ji12 := (i64_w _).trans hji12
                    by_cases c13 : 0 ≤ (ji12)
                    · rw [if_pos c13] at H
                      have c13b0 : decide (0 ≤ (ji12)) = true := decide_eq_true c13
                      clear c13
                      by_cases c14 : (ji12) < (a0.size : Int)
                      · rw [if_pos c14] at H
                        have c14b0 : decide ((ji12) < (a0.size : Int)) = true := decide_eq_true c14
                        clear c14
                        by_cases c16 : (wrap64 ((wrap64 ((a0.size : Int) - x6_1)) - 3)) < (wrap64 ((wrap64 (256 * (wrap64 (bt a0 (ji8))))) + (wrap64 (bt a0 (ji12)))))
                        · rw [if_pos c16] at H
                          have c16b0 : decide ((wrap64 ((wrap64 ((a0.size : Int) - x6_1)) - 3)) < (wrap64 ((wrap64 (256 * (wrap64 (bt a0 (ji8))))) + (wrap64 (bt a0 (ji12)))))) = true := decide_eq_true c16
                          clear c16
                          simp only [Option.some.injEq, Prod.mk.injEq] at H
                          obtain ⟨rfl, rfl⟩ := H
                          have p5 : 0 ≤ (x6_1 : Int) := of_decide_eq_true (by first | (with_reducible assumption) | assumption)
                          have q5 : x6_1 < (a0.size : Int) := of_decide_eq_true (by first | (with_reducible assumption) | assumption)
                          have hx5 := bt_at a0 x6_1
                          replace p5 := eq_true p5
                          replace q5 := eq_true q5
                          have p11 : 0 ≤ ((ji8) : Int) := of_decide_eq_true (by first | (with_reducible assumption) | assumption)
                          have q11 : (ji8) < (a0.size : Int) := of_decide_eq_true (by first | (with_reducible assumption) | assumption)
                          have hx11 := bt_at a0 (ji8)
                          replace p11 := eq_true p11
                          replace q11 := eq_true q11
                          have p15 : 0 ≤ ((ji12) : Int) := of_decide_eq_true (by first | (with_reducible assumption) | assumption)
                          have q15 : (ji12) < (a0.size : Int) := of_decide_eq_true (by first | (with_reducible assumption) | assumption)
                          have hx15 := bt_at a0 (ji12)
                          replace p15 := eq_true p15
                          replace q15 := eq_true q15
                          go_wp2
                          repeat (go_quiet (fail); try go_wp2)
                          go_ret2
                          exact ⟨_, by first | rfl | (simp [errW_none, errW_some] <;> rfl) | (simp only [← hji8, ← hji12]; first | rfl | (simp [errW_none, errW_some] <;> rfl)) | (simp [*, errW_none, errW_some] <;> rfl), by first | exact Kd.R_nil _ _ _ _ _ | exact Kd.N_nil _ _ _ _ _ | exact Kd.V_nil _ _ _ _ _ | exact Kd.Q_nil _ _ _ _ _ | exact Kd.S_nil _ _ _ _ _, by repeat (first | (with_reducible first | exact HB.out | apply below_alloc | apply pw_below_drewN | apply below_drew1) | exact HB.out)⟩
                        · rw [if_neg c16] at H
                          have c16b0 : decide ((wrap64 ((wrap64 ((a0.size : Int) - x6_1)) - 3)) < (wrap64 ((wrap64 (256 * (wrap64 (bt a0 (ji8))))) + (wrap64 (bt a0 (ji12)))))) = false := decide_eq_false c16
                          clear c16
                          obtain ⟨ji17, hji17⟩ : ∃ j_ : Int, (wrap64 (x6_1 + 3)) = j_ := ⟨_, rfl⟩
                          replace H : (if 0 ≤ (ji17) then (if (ji17) ≤ (wrap64 ((ji17) + (wrap64 ((wrap64 (256 * (wrap64 (bt a0 (ji8))))) + (wrap64 (bt a0 (ji12))))))) then (if (wrap64 ((ji17) + (wrap64 ((wrap64 (256 * (wrap64 (bt a0 (ji8))))) + (wrap64 (bt a0 (ji12))))))) ≤ (a0.size : Int) then (if x4_1.length < 5864062014805 then (sextonref01_Unpack.l0 k1 a0 (x4_1 ++ [(⟨wrap64 (bt a0 x6_1), a0.extract ((ji17) : Int).toNat ((wrap64 ((ji17) + (wrap64 ((wrap64 (256 * (wrap64 (bt a0 (ji8))))) + (wrap64 (bt a0 (ji12))))))) : Int).toNat⟩ : S60)]) (wrap64 (bt a0 x6_1)) (wrap64 ((ji17) + (wrap64 ((wrap64 (256 * (wrap64 (bt a0 (ji8))))) + (wrap64 (bt a0 (ji12)))))))) else (none)) else (none)) else (none)) else (none)) = some (r1, r2) := by first | (rw [hji17] at H; exact H) | (simp only [hji17] at H ⊢; exact H)
                          have hji17w : (IntKind.i64.wrap (x6_1 + 3)) = ji17 := (i64_w _).trans hji17
                          by_cases c18 : 0 ≤ (ji17)
                          · rw [if_pos c18] at H
                            have c18b0 := eq_true c18
                            have c18b1 : decide (0 ≤ (ji17)) = true := decide_eq_true c18
                            clear c18
                            by_cases c19 : (ji17) ≤ (wrap64 ((ji17) + (wrap64 ((wrap64 (256 * (wrap64 (bt a0 (ji8))))) + (wrap64 (bt a0 (ji12)))))))
                            · rw [if_pos c19] at H
                              have c19b0 := eq_true c19
                              have c19b1 : decide ((ji17) ≤ (wrap64 ((ji17) + (wrap64 ((wrap64 (256 * (wrap64 (bt a0 (ji8))))) + (wrap64 (bt a0 (ji12)))))))) = true := decide_eq_true c19
                              by_cases c20 : (wrap64 ((ji17) + (wrap64 ((wrap64 (256 * (wrap64 (bt a0 (ji8))))) + (wrap64 (bt a0 (ji12))))))) ≤ (a0.size : Int)
                              · rw [if_pos c20] at H
                                have c20b0 := eq_true c20
                                have c20b1 : decide ((wrap64 ((ji17) + (wrap64 ((wrap64 (256 * (wrap64 (bt a0 (ji8))))) + (wrap64 (bt a0 (ji12))))))) ≤ (a0.size : Int)) = true := decide_eq_true c20
                                by_cases c21 : x4_1.length < 5864062014805
                                · rw [if_pos c21] at H
                                  have LMc21 := Aside0.mk c21
                                  clear c21
                                  obtain ⟨y187, hy187⟩ : ∃ y_ : List (S60), y_ = (x4_1 ++ [(⟨wrap64 (bt a0 x6_1), a0.extract ((ji17) : Int).toNat ((wrap64 ((ji17) + (wrap64 ((wrap64 (256 * (wrap64 (bt a0 (ji8))))) + (wrap64 (bt a0 (ji12))))))) : Int).toNat⟩ : S60)]) := ⟨_, rfl⟩
                                  replace H : (sextonref01_Unpack.l0 k1 a0 y187 (wrap64 (bt a0 x6_1)) (wrap64 ((ji17) + (wrap64 ((wrap64 (256 * (wrap64 (bt a0 (ji8))))) + (wrap64 (bt a0 (ji12)))))))) = some (r1, r2) := by first | (rw [hy187]; with_reducible exact H) | (have H2_ := (Option.bind_some _ _).symm.trans H; rw [hy187]; with_reducible exact H2_) | (have H2_ := (Option.bind_some _ _).symm.trans H; with_reducible exact H2_) | with_reducible exact H | (rw [hy187]; exact H) | exact H
                                  have Ny187 := Aside0.mk hy187
                                  clear hy187
                                  have H' := Aside0.mk H
                                  clear H
                                  have p5 : 0 ≤ (x6_1 : Int) := of_decide_eq_true (by first | (with_reducible assumption) | assumption)
                                  have q5 : x6_1 < (a0.size : Int) := of_decide_eq_true (by first | (with_reducible assumption) | assumption)
                                  have hx5 := bt_at a0 x6_1
                                  replace p5 := eq_true p5
                                  replace q5 := eq_true q5
                                  have p11 : 0 ≤ ((ji8) : Int) := of_decide_eq_true (by first | (with_reducible assumption) | assumption)
                                  have q11 : (ji8) < (a0.size : Int) := of_decide_eq_true (by first | (with_reducible assumption) | assumption)
                                  have hx11 := bt_at a0 (ji8)
                                  replace p11 := eq_true p11
                                  replace q11 := eq_true q11
                                  have p15 : 0 ≤ ((ji12) : Int) := of_decide_eq_true (by first | (with_reducible assumption) | assumption)
                                  have q15 : (ji12) < (a0.size : Int) := of_decide_eq_true (by first | (with_reducible assumption) | assumption)
                                  have hx15 := bt_at a0 (ji12)
                                  replace p15 := eq_true p15
                                  replace q15 := eq_true q15
                                  go_wp2_with (first | ((with_reducible refine gate_builtin (b := .append) (xs := #[.tmp 46, .tmp 57]) rfl ?_); at_builtin; refine Kd.R_append k60 (w0 := w) w.heap.size rfl (.tmp 46) (.tmp 57) 45 60 (.agg #[(.int .i64 0), (.string ⟨#[]⟩)]) 24 rfl Try.underlying45 info60 rfl (by decide) (by omega) u4 x4_1 (⟨wrap64 (bt a0 x6_1), a0.extract ((ji17) : Int).toNat ((wrap64 ((ji17) + (wrap64 ((wrap64 (256 * (wrap64 (bt a0 (ji8))))) + (wrap64 (bt a0 (ji12))))))) : Int).toNat⟩ : S60) [.int .i64 (wrap64 (bt a0 x6_1)), .string (a0.extract ((ji17) : Int).toNat ((wrap64 ((ji17) + (wrap64 ((wrap64 (256 * (wrap64 (bt a0 (ji8))))) + (wrap64 (bt a0 (ji12))))))) : Int).toNat)] (fun _ => True) (fun _ => False) rfl rfl ?aP (fun _ hk => hk.elim) ?aF ?aO ?aB ?aS ?aL ?_; (case aP => exact k60_mkM _ _ _ (⟨wrap64 (bt a0 x6_1), a0.extract ((ji17) : Int).toNat ((wrap64 ((ji17) + (wrap64 ((wrap64 (256 * (wrap64 (bt a0 (ji8))))) + (wrap64 (bt a0 (ji12))))))) : Int).toNat⟩ : S60)); (case aB => exact (by repeat (first | (with_reducible first | exact HB.out | apply below_alloc | apply pw_below_drewN | apply below_drew1) | exact HB.out))); (case aF => exact (fun _ _ => trivial)); (case aO => exact (by (with_reducible repeat (first | apply Kd.R_alloc | apply Kd.R_drewN | apply Kd.R_drew)); exact HO_4.out)); (case aS => exact (below_size (by repeat (first | (with_reducible first | exact HB.out | apply below_alloc | apply pw_below_drewN | apply below_drew1) | exact HB.out)))); (case aL => have := LMc21.out; omega); intro v188 w22 ho hb hg hat; rw [← Ny187.out] at ho; have n0_ := Aside0.mk (hb); have n1_ := Aside0.mk (ho); clear HB; clear HO_4; have HB := n0_; have HO189 := n1_; clear n0_ n1_; clear ho hb hg hat))
                                  repeat (go_quiet (first | ((with_reducible refine gate_builtin (b := .append) (xs := #[.tmp 46, .tmp 57]) rfl ?_); at_builtin; refine Kd.R_append k60 (w0 := w) w.heap.size rfl (.tmp 46) (.tmp 57) 45 60 (.agg #[(.int .i64 0), (.string ⟨#[]⟩)]) 24 rfl Try.underlying45 info60 rfl (by decide) (by omega) u4 x4_1 (⟨wrap64 (bt a0 x6_1), a0.extract ((ji17) : Int).toNat ((wrap64 ((ji17) + (wrap64 ((wrap64 (256 * (wrap64 (bt a0 (ji8))))) + (wrap64 (bt a0 (ji12))))))) : Int).toNat⟩ : S60) [.int .i64 (wrap64 (bt a0 x6_1)), .string (a0.extract ((ji17) : Int).toNat ((wrap64 ((ji17) + (wrap64 ((wrap64 (256 * (wrap64 (bt a0 (ji8))))) + (wrap64 (bt a0 (ji12))))))) : Int).toNat)] (fun _ => True) (fun _ => False) rfl rfl ?aP (fun _ hk => hk.elim) ?aF ?aO ?aB ?aS ?aL ?_; (case aP => exact k60_mkM _ _ _ (⟨wrap64 (bt a0 x6_1), a0.extract ((ji17) : Int).toNat ((wrap64 ((ji17) + (wrap64 ((wrap64 (256 * (wrap64 (bt a0 (ji8))))) + (wrap64 (bt a0 (ji12))))))) : Int).toNat⟩ : S60)); (case aB => exact (by repeat (first | (with_reducible first | exact HB.out | apply below_alloc | apply pw_below_drewN | apply below_drew1) | exact HB.out))); (case aF => exact (fun _ _ => trivial)); (case aO => exact (by (with_reducible repeat (first | apply Kd.R_alloc | apply Kd.R_drewN | apply Kd.R_drew)); exact HO_4.out)); (case aS => exact (below_size (by repeat (first | (with_reducible first | exact HB.out | apply below_alloc | apply pw_below_drewN | apply below_drew1) | exact HB.out)))); (case aL => have := LMc21.out; omega); intro v188 w22 ho hb hg hat; rw [← Ny187.out] at ho; have n0_ := Aside0.mk (hb); have n1_ := Aside0.mk (ho); clear HB; clear HO_4; have HB := n0_; have HO189 := n1_; clear n0_ n1_; clear ho hb hg hat)); try go_wp2_with (first | ((with_reducible refine gate_builtin (b := .append) (xs := #[.tmp 46, .tmp 57]) rfl ?_); at_builtin; refine Kd.R_append k60 (w0 := w) w.heap.size rfl (.tmp 46) (.tmp 57) 45 60 (.agg #[(.int .i64 0), (.string ⟨#[]⟩)]) 24 rfl Try.underlying45 info60 rfl (by decide) (by omega) u4 x4_1 (⟨wrap64 (bt a0 x6_1), a0.extract ((ji17) : Int).toNat ((wrap64 ((ji17) + (wrap64 ((wrap64 (256 * (wrap64 (bt a0 (ji8))))) + (wrap64 (bt a0 (ji12))))))) : Int).toNat⟩ : S60) [.int .i64 (wrap64 (bt a0 x6_1)), .string (a0.extract ((ji17) : Int).toNat ((wrap64 ((ji17) + (wrap64 ((wrap64 (256 * (wrap64 (bt a0 (ji8))))) + (wrap64 (bt a0 (ji12))))))) : Int).toNat)] (fun _ => True) (fun _ => False) rfl rfl ?aP (fun _ hk => hk.elim) ?aF ?aO ?aB ?aS ?aL ?_; (case aP => exact k60_mkM _ _ _ (⟨wrap64 (bt a0 x6_1), a0.extract ((ji17) : Int).toNat ((wrap64 ((ji17) + (wrap64 ((wrap64 (256 * (wrap64 (bt a0 (ji8))))) + (wrap64 (bt a0 (ji12))))))) : Int).toNat⟩ : S60)); (case aB => exact (by repeat (first | (with_reducible first | exact HB.out | apply below_alloc | apply pw_below_drewN | apply below_drew1) | exact HB.out))); (case aF => exact (fun _ _ => trivial)); (case aO => exact (by (with_reducible repeat (first | apply Kd.R_alloc | apply Kd.R_drewN | apply Kd.R_drew)); exact HO_4.out)); (case aS => exact (below_size (by repeat (first | (with_reducible first | exact HB.out | apply below_alloc | apply pw_below_drewN | apply below_drew1) | exact HB.out)))); (case aL => have := LMc21.out; omega); intro v188 w22 ho hb hg hat; rw [← Ny187.out] at ho; have n0_ := Aside0.mk (hb); have n1_ := Aside0.mk (ho); clear HB; clear HO_4; have HB := n0_; have HO189 := n1_; clear n0_ n1_; clear ho hb hg hat)))
                                  go_roundg k1
                                  case measure => have := HK1.out; omega
                                  case rel => exact ⟨(y187), (wrap64 (bt a0 x6_1)), (wrap64 ((ji17) + (wrap64 ((wrap64 (256 * (wrap64 (bt a0 (ji8))))) + (wrap64 (bt a0 (ji12))))))), (by first | rfl | (simp; done) | (simp [*]; done)), (by first | rfl | (simp; done) | (simp only [← hji8, ← hji12, ← hji17] <;> (first | rfl | simp)) | (simp [*]; done)), H', ⟨by have := HK1.out; omega⟩, ⟨by (with_reducible repeat (first | apply Kd.R_alloc | apply Kd.R_drewN | apply Kd.R_drew)); exact HO189.out⟩, ⟨by repeat (first | (with_reducible first | exact HB.out | apply below_alloc | apply pw_below_drewN | apply below_drew1) | exact HB.out)⟩⟩
                                · rw [if_neg c21] at H
                                  exact absurd H (by simp)
                              · rw [if_neg c20] at H
                                exact absurd H (by simp)
                            · rw [if_neg c19] at H
                              exact absurd H (by simp)
                          · rw [if_neg c18] at H
                            exact absurd H (by simp)
                      · rw [if_neg c14] at H
                        exact absurd H (by simp)
                    · rw [if_neg c13] at H
                      exact absurd H (by simp)
                  · rw [if_neg c10] at H
                    exact absurd H (by simp)
                · rw [if_neg c9] at H
                  exact absurd H (by simp)
          · rw [if_neg c4] at H
            exact absurd H (by simp)
      · rw [if_neg c2] at H
        have c2b0 : decide (x6_1 < (a0.size : Int)) = false := decide_eq_false c2
        clear c2
        simp only [Option.some.injEq, Prod.mk.injEq] at H
        obtain ⟨rfl, rfl⟩ := H
        go_wp2
        repeat (go_quiet (fail); try go_wp2)
        go_ret2
        exact ⟨_, by first | rfl | (simp [errW_none, errW_some] <;> rfl) | (simp [*, errW_none, errW_some] <;> rfl), by (with_reducible repeat (first | apply Kd.R_alloc | apply Kd.R_drewN | apply Kd.R_drew)); exact HO_4.out, by repeat (first | (with_reducible first | exact HB.out | apply below_alloc | apply pw_below_drewN | apply below_drew1) | exact HB.out)⟩

end Go.Proofs.Ytnpgplgbnmphdaa.FA
