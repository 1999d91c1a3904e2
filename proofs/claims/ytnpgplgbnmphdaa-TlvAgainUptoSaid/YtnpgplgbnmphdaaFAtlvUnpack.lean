-- Written by wip/tools/myprint.py (a patched run of the kit's printer) out of the translation.
import Derived.Test.YtnpgplgbnmphdaaFAx0
namespace Go.Proofs.Ytnpgplgbnmphdaa.FA
open Go.RowKit Go.Proofs.YtnpgplgbnmphdaaW.PrintWords Go.Proofs.YtnpgplgbnmphdaaW.PrintLast Go.Proofs.YtnpgplgbnmphdaaW.PrintMore
attribute [local go_sem] max2_int min2_int max_two min_two max_three min_three max_four min_four   -- for this text's walks alone
set_option linter.unusedVariables false
set_option linter.unusedSimpArgs false

/-! ### tlv_Unpack: function 22 -/
def tlv_Unpack.l0 : Nat → ByteArray → List (S37) → Int → Int → Option ((List (S37)) × Int)
  | 0, _, _, _, _ => none
  | k + 1, x0, x4, x5, x6 => if x0.toList = ([] : List UInt8) then (if x5 = 0 then (some (x4, 0)) else (some (([] : List (S37)), x5))) else (if (x0.size : Int) < 3 then (if 10 = 0 then (some (x4, 0)) else (some (([] : List (S37)), 10))) else (if 0 < (x0.size : Int) then (if 1 < (x0.size : Int) then (if 2 < (x0.size : Int) then (if (wrap64 (bt x0 0)) = 0 then (if 4 = 0 then (some (x4, 0)) else (some (([] : List (S37)), 4))) else (if (wrap64 (bt x0 0)) < x6 then (if 11 = 0 then (some (x4, 0)) else (some (([] : List (S37)), 11))) else (if (x0.size : Int) < (wrap64 (3 + (Go.bits .or .i64 (wrap64 ((wrap64 (bt x0 1)) * 256)) (wrap64 (bt x0 2))))) then (if 10 = 0 then (some (x4, 0)) else (some (([] : List (S37)), 10))) else (if 3 ≤ (wrap64 (3 + (Go.bits .or .i64 (wrap64 ((wrap64 (bt x0 1)) * 256)) (wrap64 (bt x0 2))))) then (if (wrap64 (3 + (Go.bits .or .i64 (wrap64 ((wrap64 (bt x0 1)) * 256)) (wrap64 (bt x0 2))))) ≤ (x0.size : Int) then (if x4.length < 5864062014805 then (if 0 ≤ (wrap64 (3 + (Go.bits .or .i64 (wrap64 ((wrap64 (bt x0 1)) * 256)) (wrap64 (bt x0 2))))) then (tlv_Unpack.l0 k (x0.extract ((wrap64 (3 + (Go.bits .or .i64 (wrap64 ((wrap64 (bt x0 1)) * 256)) (wrap64 (bt x0 2))))) : Int).toNat x0.size) (x4 ++ [(⟨wrap64 (bt x0 0), x0.extract 3 ((wrap64 (3 + (Go.bits .or .i64 (wrap64 ((wrap64 (bt x0 1)) * 256)) (wrap64 (bt x0 2))))) : Int).toNat⟩ : S37)]) 0 (wrap64 (bt x0 0))) else (none)) else (none)) else (none)) else (none))))) else (none)) else (none)) else (none)))
def tlv_Unpack.f (k : Nat) (a0 : ByteArray) : Option ((List (S37)) × Int) := tlv_Unpack.l0 k a0 ([] : List (S37)) 0 0
theorem tlv_Unpack.mono_l : ∀ k, (∀ y0 y1 y2 y3, LeO (tlv_Unpack.l0 k y0 y1 y2 y3) (tlv_Unpack.l0 (k + 1) y0 y1 y2 y3))
  | 0 => fun _ _ _ _ r h => by simp [tlv_Unpack.l0] at h
  | k + 1 => by
    have ih0 := tlv_Unpack.mono_l k
    · intro y0 y1 y2 y3
      unfold tlv_Unpack.l0
      repeat' first
      | (with_reducible exact ih0 _ _ _ _)
      | (with_reducible exact LeO.refl _)
      | (with_reducible exact LeO.none _)
      | (with_reducible refine LeO.ite ?_ ?_)
      | (with_reducible refine LeO.bind ?_ (fun _ => ?_))
      | exact ih0 _ _ _ _
      | exact LeO.none _
      | refine LeO.ite ?_ ?_
      | refine LeO.bind ?_ (fun _ => ?_)
theorem tlv_Unpack.mono : ∀ a0 k, LeO (tlv_Unpack.f k a0) (tlv_Unpack.f (k + 1) a0) := by
  intro a0 k
  have ih0 := tlv_Unpack.mono_l k
  unfold tlv_Unpack.f
  repeat' first
      | (with_reducible exact ih0 _ _ _ _)
      | (with_reducible exact LeO.refl _)
      | (with_reducible exact LeO.none _)
      | (with_reducible refine LeO.ite ?_ ?_)
      | (with_reducible refine LeO.bind ?_ (fun _ => ?_))
      | exact ih0 _ _ _ _
      | exact LeO.none _
      | refine LeO.ite ?_ ?_
      | refine LeO.bind ?_ (fun _ => ?_)
set_option maxHeartbeats 8000000 in
set_option maxRecDepth 100000 in
theorem tlv_Unpack.calls (k : Nat) (a0 : ByteArray) (r1 : List (S37)) (r2 : Int) (w : World) (h : tlv_Unpack.f k a0 = some (r1, r2)) :
    Calls Try.prog 22 #[.string a0] w fun e w' => ∃ v0_ : Value, e = .returned (.tuple #[v0_, .int .i64 r2]) ∧ Kd.R k37 37 w' w.heap.size (fun _ => True) v0_ r1 ∧ Below w.heap.size w w' := by
  have hu37 := Try.underlying37
  have HB := Aside0.mk (Below.refl w.heap.size w)
  have H : (tlv_Unpack.l0 k a0 ([] : List (S37)) 0 0) = some (r1, r2) := h
  clear h
  have H' := Aside0.mk H
  clear H
  go_enter Try.func22, Try.ntmps22
  go_wp2
  (try (go_step3; go_wp2))
  (try (go_step3; go_wp2))
  repeat (go_quiet (fail); try go_wp2)
  go_loopg [0, 4, 5, 6] k (fun kq v0 v4 v5 v6 w' => ∃ (x0_1 : ByteArray) (x4_1 : List (S37)) (x5_1 : Int) (x6_1 : Int), v0 = .string x0_1 ∧ v5 = .int .i64 x5_1 ∧ v6 = .int .i64 x6_1 ∧ Aside0 (tlv_Unpack.l0 kq x0_1 x4_1 x5_1 x6_1 = some (r1, r2)) ∧ Aside0 (kq ≤ k) ∧ Aside0 (Kd.R k37 37 w' w.heap.size (fun _ => True) v4 x4_1) ∧ Aside0 (Below w.heap.size w w'))
  case atStart => exact ⟨(a0), (([] : List (S37))), (0), (0), (by first | rfl | (simp; done) | (simp [*]; done)), (by first | rfl | (simp; done) | (simp [*]; done)), (by first | rfl | (simp; done) | (simp [*]; done)), H', ⟨Nat.le_refl _⟩, ⟨by first | exact Kd.R_nil _ _ _ _ _ | exact Kd.N_nil _ _ _ _ _ | exact Kd.V_nil _ _ _ _ _ | exact Kd.Q_nil _ _ _ _ _ | exact Kd.S_nil _ _ _ _ _⟩, ⟨by repeat (first | (with_reducible first | exact HB.out | apply below_alloc | apply pw_below_drewN | apply below_drew1) | exact HB.out)⟩⟩
  case round =>
    clear H'
    obtain ⟨x0_1, x4_1, x5_1, x6_1, rfl, rfl, rfl, HA, HK1, HO_4, HB⟩ := hrel
    cases gk with
    | zero => exact absurd HA.out (by simp [tlv_Unpack.l0])
    | succ k1 =>
      have H := HA.out
      clear HA
      simp only [tlv_Unpack.l0] at H
      by_cases c2 : x0_1.toList = ([] : List UInt8)
      · rw [if_pos c2] at H
        have c2b0 : (x0_1.toList == ([] : List UInt8)) = true := beq_iff_eq.mpr c2
        have c2b1 : (x0_1.toList != ([] : List UInt8)) = false := bne_eq_false_iff_eq.mpr c2
        clear c2
        by_cases c3 : x5_1 = 0
        · rw [if_pos c3] at H
          have c3b0 : (x5_1 == 0) = true := beq_iff_eq.mpr c3
          have c3b1 : (x5_1 != 0) = false := bne_eq_false_iff_eq.mpr c3
          clear c3
          simp only [Option.some.injEq, Prod.mk.injEq] at H
          obtain ⟨rfl, rfl⟩ := H
          go_wp2
          (try (go_step3; go_wp2))
          (try (go_step3; go_wp2))
          repeat (go_quiet (fail); try go_wp2)
          (try rw [Exit.noGoto_ret])
          go_ret2
          exact ⟨_, by first | rfl | (simp [errW_none, errW_some] <;> rfl) | (simp [*, errW_none, errW_some] <;> rfl), by (with_reducible repeat (first | apply Kd.R_alloc | apply Kd.R_drewN | apply Kd.R_drew)); exact HO_4.out, by repeat (first | (with_reducible first | exact HB.out | apply below_alloc | apply pw_below_drewN | apply below_drew1) | exact HB.out)⟩
        · rw [if_neg c3] at H
          have c3b0 : (x5_1 == 0) = false := beq_eq_false_iff_ne.mpr c3
          have c3b1 : (x5_1 != 0) = true := bne_iff_ne.mpr c3
          simp only [Option.some.injEq, Prod.mk.injEq] at H
          obtain ⟨rfl, rfl⟩ := H
          go_wp2
          (try (go_step3; go_wp2))
          (try (go_step3; go_wp2))
          repeat (go_quiet (fail); try go_wp2)
          (try rw [Exit.noGoto_ret])
          go_ret2
          exact ⟨_, by first | rfl | (simp [errW_none, errW_some] <;> rfl) | (simp [*, errW_none, errW_some] <;> rfl), by first | exact Kd.R_nil _ _ _ _ _ | exact Kd.N_nil _ _ _ _ _ | exact Kd.V_nil _ _ _ _ _ | exact Kd.Q_nil _ _ _ _ _ | exact Kd.S_nil _ _ _ _ _, by repeat (first | (with_reducible first | exact HB.out | apply below_alloc | apply pw_below_drewN | apply below_drew1) | exact HB.out)⟩
      · rw [if_neg c2] at H
        have c2b0 : (x0_1.toList == ([] : List UInt8)) = false := beq_eq_false_iff_ne.mpr c2
        have c2b1 : (x0_1.toList != ([] : List UInt8)) = true := bne_iff_ne.mpr c2
        by_cases c4 : (x0_1.size : Int) < 3
        · rw [if_pos c4] at H
          have c4b0 : decide ((x0_1.size : Int) < 3) = true := decide_eq_true c4
          have c4b1 : decide (x0_1.size < 3) = true := decide_eq_true (by omega)
          clear c4
          by_cases c5 : 10 = 0
          · exact absurd c5 (by decide)
          · rw [if_neg c5] at H
            have c5b0 : (10 == 0) = false := beq_eq_false_iff_ne.mpr c5
            have c5b1 : (10 != 0) = true := bne_iff_ne.mpr c5
            simp only [Option.some.injEq, Prod.mk.injEq] at H
            obtain ⟨rfl, rfl⟩ := H
            go_wp2
            (try (go_step3; go_wp2))
            (try (go_step3; go_wp2))
            repeat (go_quiet (fail); try go_wp2)
            (try rw [Exit.noGoto_ret])
            go_ret2
            exact ⟨_, by first | rfl | (simp [errW_none, errW_some] <;> rfl) | (simp [*, errW_none, errW_some] <;> rfl), by first | exact Kd.R_nil _ _ _ _ _ | exact Kd.N_nil _ _ _ _ _ | exact Kd.V_nil _ _ _ _ _ | exact Kd.Q_nil _ _ _ _ _ | exact Kd.S_nil _ _ _ _ _, by repeat (first | (with_reducible first | exact HB.out | apply below_alloc | apply pw_below_drewN | apply below_drew1) | exact HB.out)⟩
        · rw [if_neg c4] at H
          have c4b0 : decide ((x0_1.size : Int) < 3) = false := decide_eq_false c4
          have c4b1 : decide (x0_1.size < 3) = false := decide_eq_false (by omega)
          clear c4
          by_cases c6 : 0 < (x0_1.size : Int)
          · rw [if_pos c6] at H
            have c6b0 : decide (0 < (x0_1.size : Int)) = true := decide_eq_true c6
            have c6b1 : decide (0 < x0_1.size) = true := decide_eq_true (by omega)
            clear c6
            by_cases c8 : 1 < (x0_1.size : Int)
            · rw [if_pos c8] at H
              have c8b0 : decide (1 < (x0_1.size : Int)) = true := decide_eq_true c8
              have c8b1 : decide (1 < x0_1.size) = true := decide_eq_true (by omega)
              clear c8
              by_cases c10 : 2 < (x0_1.size : Int)
              · rw [if_pos c10] at H
                have c10b0 : decide (2 < (x0_1.size : Int)) = true := decide_eq_true c10
                have c10b1 : decide (2 < x0_1.size) = true := decide_eq_true (by omega)
                clear c10
                by_cases c12 : (wrap64 (bt x0_1 0)) = 0
                · rw [if_pos c12] at H
                  have c12b0 : ((wrap64 (bt x0_1 0)) == 0) = true := beq_iff_eq.mpr c12
                  have c12b1 : ((wrap64 (bt x0_1 0)) != 0) = false := bne_eq_false_iff_eq.mpr c12
                  clear c12
                  by_cases c13 : 4 = 0
                  · exact absurd c13 (by decide)
                  · rw [if_neg c13] at H
                    have c13b0 : (4 == 0) = false := beq_eq_false_iff_ne.mpr c13
                    have c13b1 : (4 != 0) = true := bne_iff_ne.mpr c13
                    simp only [Option.some.injEq, Prod.mk.injEq] at H
                    obtain ⟨rfl, rfl⟩ := H
                    have p7 : 0 ≤ (0 : Int) := (by omega)
                    have q7 : 0 < x0_1.size := (by have : (0 : Int) < (x0_1.size : Int) := of_decide_eq_true (by first | (with_reducible assumption) | assumption); omega)
                    have hx7 : ∀ h : 0 < x0_1.size, ((x0_1[0]'h).toNat : Int) = bt x0_1 0 := bt_at x0_1 0
                    clear p7
                    have qi7 : (0 < (x0_1.size : Int)) = True := eq_true (of_decide_eq_true (by first | (with_reducible assumption) | assumption))
                    replace q7 := eq_true q7
                    have p9 : 0 ≤ (1 : Int) := (by omega)
                    have q9 : 1 < x0_1.size := (by have : (1 : Int) < (x0_1.size : Int) := of_decide_eq_true (by first | (with_reducible assumption) | assumption); omega)
                    have hx9 : ∀ h : 1 < x0_1.size, ((x0_1[1]'h).toNat : Int) = bt x0_1 1 := bt_at x0_1 1
                    clear p9
                    have qi9 : (1 < (x0_1.size : Int)) = True := eq_true (of_decide_eq_true (by first | (with_reducible assumption) | assumption))
                    replace q9 := eq_true q9
                    have p11 : 0 ≤ (2 : Int) := (by omega)
                    have q11 : 2 < x0_1.size := (by have : (2 : Int) < (x0_1.size : Int) := of_decide_eq_true (by first | (with_reducible assumption) | assumption); omega)
                    have hx11 : ∀ h : 2 < x0_1.size, ((x0_1[2]'h).toNat : Int) = bt x0_1 2 := bt_at x0_1 2
                    clear p11
                    have qi11 : (2 < (x0_1.size : Int)) = True := eq_true (of_decide_eq_true (by first | (with_reducible assumption) | assumption))
                    replace q11 := eq_true q11
                    go_wp2
                    (try (go_step3; go_wp2))
                    (try (go_step3; go_wp2))
                    repeat (go_quiet (fail); try go_wp2)
                    (try rw [Exit.noGoto_ret])
                    go_ret2
                    exact ⟨_, by first | rfl | (simp [errW_none, errW_some] <;> rfl) | (simp [*, errW_none, errW_some] <;> rfl), by first | exact Kd.R_nil _ _ _ _ _ | exact Kd.N_nil _ _ _ _ _ | exact Kd.V_nil _ _ _ _ _ | exact Kd.Q_nil _ _ _ _ _ | exact Kd.S_nil _ _ _ _ _, by repeat (first | (with_reducible first | exact HB.out | apply below_alloc | apply pw_below_drewN | apply below_drew1) | exact HB.out)⟩
                · rw [if_neg c12] at H
                  have c12b0 : ((wrap64 (bt x0_1 0)) == 0) = false := beq_eq_false_iff_ne.mpr c12
                  have c12b1 : ((wrap64 (bt x0_1 0)) != 0) = true := bne_iff_ne.mpr c12
                  by_cases c14 : (wrap64 (bt x0_1 0)) < x6_1
                  · rw [if_pos c14] at H
                    have c14b0 : decide ((wrap64 (bt x0_1 0)) < x6_1) = true := decide_eq_true c14
                    clear c14
                    by_cases c15 : 11 = 0
                    · exact absurd c15 (by decide)
                    · rw [if_neg c15] at H
                      have c15b0 : (11 == 0) = false := beq_eq_false_iff_ne.mpr c15
                      have c15b1 : (11 != 0) = true := bne_iff_ne.mpr c15
                      simp only [Option.some.injEq, Prod.mk.injEq] at H
                      obtain ⟨rfl, rfl⟩ := H
                      have p7 : 0 ≤ (0 : Int) := (by omega)
                      have q7 : 0 < x0_1.size := (by have : (0 : Int) < (x0_1.size : Int) := of_decide_eq_true (by first | (with_reducible assumption) | assumption); omega)
                      have hx7 : ∀ h : 0 < x0_1.size, ((x0_1[0]'h).toNat : Int) = bt x0_1 0 := bt_at x0_1 0
                      clear p7
                      have qi7 : (0 < (x0_1.size : Int)) = True := eq_true (of_decide_eq_true (by first | (with_reducible assumption) | assumption))
                      replace q7 := eq_true q7
                      have p9 : 0 ≤ (1 : Int) := (by omega)
                      have q9 : 1 < x0_1.size := (by have : (1 : Int) < (x0_1.size : Int) := of_decide_eq_true (by first | (with_reducible assumption) | assumption); omega)
                      have hx9 : ∀ h : 1 < x0_1.size, ((x0_1[1]'h).toNat : Int) = bt x0_1 1 := bt_at x0_1 1
                      clear p9
                      have qi9 : (1 < (x0_1.size : Int)) = True := eq_true (of_decide_eq_true (by first | (with_reducible assumption) | assumption))
                      replace q9 := eq_true q9
                      have p11 : 0 ≤ (2 : Int) := (by omega)
                      have q11 : 2 < x0_1.size := (by have : (2 : Int) < (x0_1.size : Int) := of_decide_eq_true (by first | (with_reducible assumption) | assumption); omega)
                      have hx11 : ∀ h : 2 < x0_1.size, ((x0_1[2]'h).toNat : Int) = bt x0_1 2 := bt_at x0_1 2
                      clear p11
                      have qi11 : (2 < (x0_1.size : Int)) = True := eq_true (of_decide_eq_true (by first | (with_reducible assumption) | assumption))
                      replace q11 := eq_true q11
                      go_wp2
                      (try (go_step3; go_wp2))
                      (try (go_step3; go_wp2))
                      repeat (go_quiet (fail); try go_wp2)
                      (try rw [Exit.noGoto_ret])
                      go_ret2
                      exact ⟨_, by first | rfl | (simp [errW_none, errW_some] <;> rfl) | (simp [*, errW_none, errW_some] <;> rfl), by first | exact Kd.R_nil _ _ _ _ _ | exact Kd.N_nil _ _ _ _ _ | exact Kd.V_nil _ _ _ _ _ | exact Kd.Q_nil _ _ _ _ _ | exact Kd.S_nil _ _ _ _ _, by repeat (first | (with_reducible first | exact HB.out | apply below_alloc | apply pw_below_drewN | apply below_drew1) | exact HB.out)⟩
                  · rw [if_neg c14] at H
                    have c14b0 : decide ((wrap64 (bt x0_1 0)) < x6_1) = false := decide_eq_false c14
                    clear c14
                    by_cases c16 : (x0_1.size : Int) < (wrap64 (3 + (Go.bits .or .i64 (wrap64 ((wrap64 (bt x0_1 1)) * 256)) (wrap64 (bt x0_1 2)))))
                    · rw [if_pos c16] at H
                      have c16b0 : decide ((x0_1.size : Int) < (wrap64 (3 + (Go.bits .or .i64 (wrap64 ((wrap64 (bt x0_1 1)) * 256)) (wrap64 (bt x0_1 2)))))) = true := decide_eq_true c16
                      clear c16
                      by_cases c17 : 10 = 0
                      · exact absurd c17 (by decide)
                      · rw [if_neg c17] at H
                        have c17b0 : (10 == 0) = false := beq_eq_false_iff_ne.mpr c17
                        have c17b1 : (10 != 0) = true := bne_iff_ne.mpr c17
                        simp only [Option.some.injEq, Prod.mk.injEq] at H
                        obtain ⟨rfl, rfl⟩ := H
                        have p7 : 0 ≤ (0 : Int) := (by omega)
                        have q7 : 0 < x0_1.size := (by have : (0 : Int) < (x0_1.size : Int) := of_decide_eq_true (by first | (with_reducible assumption) | assumption); omega)
                        have hx7 : ∀ h : 0 < x0_1.size, ((x0_1[0]'h).toNat : Int) = bt x0_1 0 := bt_at x0_1 0
                        clear p7
                        have qi7 : (0 < (x0_1.size : Int)) = True := eq_true (of_decide_eq_true (by first | (with_reducible assumption) | assumption))
                        replace q7 := eq_true q7
                        have p9 : 0 ≤ (1 : Int) := (by omega)
                        have q9 : 1 < x0_1.size := (by have : (1 : Int) < (x0_1.size : Int) := of_decide_eq_true (by first | (with_reducible assumption) | assumption); omega)
                        have hx9 : ∀ h : 1 < x0_1.size, ((x0_1[1]'h).toNat : Int) = bt x0_1 1 := bt_at x0_1 1
                        clear p9
                        have qi9 : (1 < (x0_1.size : Int)) = True := eq_true (of_decide_eq_true (by first | (with_reducible assumption) | assumption))
                        replace q9 := eq_true q9
                        have p11 : 0 ≤ (2 : Int) := (by omega)
                        have q11 : 2 < x0_1.size := (by have : (2 : Int) < (x0_1.size : Int) := of_decide_eq_true (by first | (with_reducible assumption) | assumption); omega)
                        have hx11 : ∀ h : 2 < x0_1.size, ((x0_1[2]'h).toNat : Int) = bt x0_1 2 := bt_at x0_1 2
                        clear p11
                        have qi11 : (2 < (x0_1.size : Int)) = True := eq_true (of_decide_eq_true (by first | (with_reducible assumption) | assumption))
                        replace q11 := eq_true q11
                        go_wp2
                        (try (go_step3; go_wp2))
                        (try (go_step3; go_wp2))
                        repeat (go_quiet (fail); try go_wp2)
                        (try rw [Exit.noGoto_ret])
                        go_ret2
                        exact ⟨_, by first | rfl | (simp [errW_none, errW_some] <;> rfl) | (simp [*, errW_none, errW_some] <;> rfl), by first | exact Kd.R_nil _ _ _ _ _ | exact Kd.N_nil _ _ _ _ _ | exact Kd.V_nil _ _ _ _ _ | exact Kd.Q_nil _ _ _ _ _ | exact Kd.S_nil _ _ _ _ _, by repeat (first | (with_reducible first | exact HB.out | apply below_alloc | apply pw_below_drewN | apply below_drew1) | exact HB.out)⟩
                    · rw [if_neg c16] at H
                      have c16b0 : decide ((x0_1.size : Int) < (wrap64 (3 + (Go.bits .or .i64 (wrap64 ((wrap64 (bt x0_1 1)) * 256)) (wrap64 (bt x0_1 2)))))) = false := decide_eq_false c16
                      clear c16
                      by_cases c18 : 3 ≤ (wrap64 (3 + (Go.bits .or .i64 (wrap64 ((wrap64 (bt x0_1 1)) * 256)) (wrap64 (bt x0_1 2)))))
                      · rw [if_pos c18] at H
                        have c18b0 := eq_true c18
                        have c18b1 : decide (3 ≤ (wrap64 (3 + (Go.bits .or .i64 (wrap64 ((wrap64 (bt x0_1 1)) * 256)) (wrap64 (bt x0_1 2)))))) = true := decide_eq_true c18
                        by_cases c19 : (wrap64 (3 + (Go.bits .or .i64 (wrap64 ((wrap64 (bt x0_1 1)) * 256)) (wrap64 (bt x0_1 2))))) ≤ (x0_1.size : Int)
                        · rw [if_pos c19] at H
                          have c19b0 := eq_true c19
                          have c19b1 : decide ((wrap64 (3 + (Go.bits .or .i64 (wrap64 ((wrap64 (bt x0_1 1)) * 256)) (wrap64 (bt x0_1 2))))) ≤ (x0_1.size : Int)) = true := decide_eq_true c19
                          by_cases c20 : x4_1.length < 5864062014805
                          · rw [if_pos c20] at H
                            have LMc20 := Aside0.mk c20
                            clear c20
                            obtain ⟨y184, hy184⟩ : ∃ y_ : List (S37), y_ = (x4_1 ++ [(⟨wrap64 (bt x0_1 0), x0_1.extract 3 ((wrap64 (3 + (Go.bits .or .i64 (wrap64 ((wrap64 (bt x0_1 1)) * 256)) (wrap64 (bt x0_1 2))))) : Int).toNat⟩ : S37)]) := ⟨_, rfl⟩
                            replace H : (if 0 ≤ (wrap64 (3 + (Go.bits .or .i64 (wrap64 ((wrap64 (bt x0_1 1)) * 256)) (wrap64 (bt x0_1 2))))) then (tlv_Unpack.l0 k1 (x0_1.extract ((wrap64 (3 + (Go.bits .or .i64 (wrap64 ((wrap64 (bt x0_1 1)) * 256)) (wrap64 (bt x0_1 2))))) : Int).toNat x0_1.size) y184 0 (wrap64 (bt x0_1 0))) else (none)) = some (r1, r2) := by first | (rw [hy184]; with_reducible exact H) | (have H2_ := (Option.bind_some _ _).symm.trans H; rw [hy184]; with_reducible exact H2_) | (have H2_ := (Option.bind_some _ _).symm.trans H; with_reducible exact H2_) | with_reducible exact H | (rw [hy184]; exact H) | exact H
                            have Ny184 := Aside0.mk hy184
                            clear hy184
                            obtain ⟨ji21, hji21⟩ : ∃ j_ : Int, (wrap64 (3 + (Go.bits .or .i64 (wrap64 ((wrap64 (bt x0_1 1)) * 256)) (wrap64 (bt x0_1 2))))) = j_ := ⟨_, rfl⟩
                            replace H : (if 0 ≤ (ji21) then (tlv_Unpack.l0 k1 (x0_1.extract ((ji21) : Int).toNat x0_1.size) y184 0 (wrap64 (bt x0_1 0))) else (none)) = some (r1, r2) := by first | (rw [hji21] at H; exact H) | (simp only [hji21] at H ⊢; exact H)
                            (try rw [hji21] at c16b0)
                            (try rw [hji21] at c18b0)
                            (try rw [hji21] at c18b1)
                            (try rw [hji21] at c18)
                            (try rw [hji21] at c19b0)
                            (try rw [hji21] at c19b1)
                            (try rw [hji21] at c19)
                            (try rw [hji21] at Ny184)
                            have hji21w : (IntKind.i64.wrap (3 + (Go.bits .or .i64 (wrap64 ((wrap64 (bt x0_1 1)) * 256)) (wrap64 (bt x0_1 2))))) = ji21 := (i64_w _).trans hji21
                            by_cases c22 : 0 ≤ (ji21)
                            · rw [if_pos c22] at H
                              have c22b0 := eq_true c22
                              have c22b1 : decide (0 ≤ (ji21)) = true := decide_eq_true c22
                              clear c22
                              have c23b0 := eq_true (of_decide_eq_true (by first | (with_reducible assumption) | assumption) : (ji21) ≤ (x0_1.size : Int))
                              have H' := Aside0.mk H
                              clear H
                              have p7 : 0 ≤ (0 : Int) := (by omega)
                              have q7 : 0 < x0_1.size := (by have : (0 : Int) < (x0_1.size : Int) := of_decide_eq_true (by first | (with_reducible assumption) | assumption); omega)
                              have hx7 : ∀ h : 0 < x0_1.size, ((x0_1[0]'h).toNat : Int) = bt x0_1 0 := bt_at x0_1 0
                              clear p7
                              have qi7 : (0 < (x0_1.size : Int)) = True := eq_true (of_decide_eq_true (by first | (with_reducible assumption) | assumption))
                              replace q7 := eq_true q7
                              have p9 : 0 ≤ (1 : Int) := (by omega)
                              have q9 : 1 < x0_1.size := (by have : (1 : Int) < (x0_1.size : Int) := of_decide_eq_true (by first | (with_reducible assumption) | assumption); omega)
                              have hx9 : ∀ h : 1 < x0_1.size, ((x0_1[1]'h).toNat : Int) = bt x0_1 1 := bt_at x0_1 1
                              clear p9
                              have qi9 : (1 < (x0_1.size : Int)) = True := eq_true (of_decide_eq_true (by first | (with_reducible assumption) | assumption))
                              replace q9 := eq_true q9
                              have p11 : 0 ≤ (2 : Int) := (by omega)
                              have q11 : 2 < x0_1.size := (by have : (2 : Int) < (x0_1.size : Int) := of_decide_eq_true (by first | (with_reducible assumption) | assumption); omega)
                              have hx11 : ∀ h : 2 < x0_1.size, ((x0_1[2]'h).toNat : Int) = bt x0_1 2 := bt_at x0_1 2
                              clear p11
                              have qi11 : (2 < (x0_1.size : Int)) = True := eq_true (of_decide_eq_true (by first | (with_reducible assumption) | assumption))
                              replace q11 := eq_true q11
                              go_wp2_with (first | ((with_reducible refine gate_builtin (b := .append) (xs := #[.tmp 38, .tmp 45]) rfl ?_); at_builtin; refine Kd.R_append k37 (w0 := w) w.heap.size rfl (.tmp 38) (.tmp 45) 34 37 (.agg #[(.int .i64 0), (.string ⟨#[]⟩)]) 24 rfl Try.underlying34 info37 rfl (by decide) (by omega) u4 x4_1 (⟨wrap64 (bt x0_1 0), x0_1.extract 3 ((ji21) : Int).toNat⟩ : S37) [.int .i64 (wrap64 (bt x0_1 0)), .string (x0_1.extract 3 ((ji21) : Int).toNat)] (fun _ => True) (fun _ => False) rfl rfl ?aP (fun _ hk => hk.elim) ?aF ?aO ?aB ?aS ?aL ?_; (case aP => exact k37_mkM _ _ _ (⟨wrap64 (bt x0_1 0), x0_1.extract 3 ((ji21) : Int).toNat⟩ : S37)); (case aB => exact (by repeat (first | (with_reducible first | exact HB.out | apply below_alloc | apply pw_below_drewN | apply below_drew1) | exact HB.out))); (case aF => exact (fun _ _ => trivial)); (case aO => exact (by (with_reducible repeat (first | apply Kd.R_alloc | apply Kd.R_drewN | apply Kd.R_drew)); exact HO_4.out)); (case aS => exact (below_size (by repeat (first | (with_reducible first | exact HB.out | apply below_alloc | apply pw_below_drewN | apply below_drew1) | exact HB.out)))); (case aL => have := LMc20.out; omega); intro v185 w24 ho hb hg hat; rw [← Ny184.out] at ho; have n0_ := Aside0.mk (hb); have n1_ := Aside0.mk (ho); clear HB; clear HO_4; have HB := n0_; have HO186 := n1_; clear n0_ n1_; clear ho hb hg hat))
                              repeat (go_quiet (first | ((with_reducible refine gate_builtin (b := .append) (xs := #[.tmp 38, .tmp 45]) rfl ?_); at_builtin; refine Kd.R_append k37 (w0 := w) w.heap.size rfl (.tmp 38) (.tmp 45) 34 37 (.agg #[(.int .i64 0), (.string ⟨#[]⟩)]) 24 rfl Try.underlying34 info37 rfl (by decide) (by omega) u4 x4_1 (⟨wrap64 (bt x0_1 0), x0_1.extract 3 ((ji21) : Int).toNat⟩ : S37) [.int .i64 (wrap64 (bt x0_1 0)), .string (x0_1.extract 3 ((ji21) : Int).toNat)] (fun _ => True) (fun _ => False) rfl rfl ?aP (fun _ hk => hk.elim) ?aF ?aO ?aB ?aS ?aL ?_; (case aP => exact k37_mkM _ _ _ (⟨wrap64 (bt x0_1 0), x0_1.extract 3 ((ji21) : Int).toNat⟩ : S37)); (case aB => exact (by repeat (first | (with_reducible first | exact HB.out | apply below_alloc | apply pw_below_drewN | apply below_drew1) | exact HB.out))); (case aF => exact (fun _ _ => trivial)); (case aO => exact (by (with_reducible repeat (first | apply Kd.R_alloc | apply Kd.R_drewN | apply Kd.R_drew)); exact HO_4.out)); (case aS => exact (below_size (by repeat (first | (with_reducible first | exact HB.out | apply below_alloc | apply pw_below_drewN | apply below_drew1) | exact HB.out)))); (case aL => have := LMc20.out; omega); intro v185 w24 ho hb hg hat; rw [← Ny184.out] at ho; have n0_ := Aside0.mk (hb); have n1_ := Aside0.mk (ho); clear HB; clear HO_4; have HB := n0_; have HO186 := n1_; clear n0_ n1_; clear ho hb hg hat)); try go_wp2_with (first | ((with_reducible refine gate_builtin (b := .append) (xs := #[.tmp 38, .tmp 45]) rfl ?_); at_builtin; refine Kd.R_append k37 (w0 := w) w.heap.size rfl (.tmp 38) (.tmp 45) 34 37 (.agg #[(.int .i64 0), (.string ⟨#[]⟩)]) 24 rfl Try.underlying34 info37 rfl (by decide) (by omega) u4 x4_1 (⟨wrap64 (bt x0_1 0), x0_1.extract 3 ((ji21) : Int).toNat⟩ : S37) [.int .i64 (wrap64 (bt x0_1 0)), .string (x0_1.extract 3 ((ji21) : Int).toNat)] (fun _ => True) (fun _ => False) rfl rfl ?aP (fun _ hk => hk.elim) ?aF ?aO ?aB ?aS ?aL ?_; (case aP => exact k37_mkM _ _ _ (⟨wrap64 (bt x0_1 0), x0_1.extract 3 ((ji21) : Int).toNat⟩ : S37)); (case aB => exact (by repeat (first | (with_reducible first | exact HB.out | apply below_alloc | apply pw_below_drewN | apply below_drew1) | exact HB.out))); (case aF => exact (fun _ _ => trivial)); (case aO => exact (by (with_reducible repeat (first | apply Kd.R_alloc | apply Kd.R_drewN | apply Kd.R_drew)); exact HO_4.out)); (case aS => exact (below_size (by repeat (first | (with_reducible first | exact HB.out | apply below_alloc | apply pw_below_drewN | apply below_drew1) | exact HB.out)))); (case aL => have := LMc20.out; omega); intro v185 w24 ho hb hg hat; rw [← Ny184.out] at ho; have n0_ := Aside0.mk (hb); have n1_ := Aside0.mk (ho); clear HB; clear HO_4; have HB := n0_; have HO186 := n1_; clear n0_ n1_; clear ho hb hg hat)))
                              go_roundg k1
                              case measure => have := HK1.out; omega
                              case rel => exact ⟨(x0_1.extract ((ji21) : Int).toNat x0_1.size), (y184), (0), (wrap64 (bt x0_1 0)), (by first | rfl | (simp; done) | (simp only [← hji21] <;> (first | rfl | simp)) | (simp [*]; done)), (by first | rfl | (simp; done) | (simp [*]; done)), (by first | rfl | (simp; done) | (simp [*]; done)), H', ⟨by have := HK1.out; omega⟩, ⟨by (with_reducible repeat (first | apply Kd.R_alloc | apply Kd.R_drewN | apply Kd.R_drew)); exact HO186.out⟩, ⟨by repeat (first | (with_reducible first | exact HB.out | apply below_alloc | apply pw_below_drewN | apply below_drew1) | exact HB.out)⟩⟩
                            · rw [if_neg c22] at H
                              exact absurd H (by simp)
                          · rw [if_neg c20] at H
                            exact absurd H (by simp)
                        · rw [if_neg c19] at H
                          exact absurd H (by simp)
                      · rw [if_neg c18] at H
                        exact absurd H (by simp)
              · rw [if_neg c10] at H
                exact absurd H (by simp)
            · rw [if_neg c8] at H
              exact absurd H (by simp)
          · rw [if_neg c6] at H
            exact absurd H (by simp)

end Go.Proofs.Ytnpgplgbnmphdaa.FA
