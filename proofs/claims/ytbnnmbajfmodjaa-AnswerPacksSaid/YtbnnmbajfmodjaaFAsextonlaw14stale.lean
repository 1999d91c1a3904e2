-- Written by wip/tools/myprint.py (a patched run of the kit's printer) out of the translation.
import Derived.Test.YtbnnmbajfmodjaaFAx0
import Derived.Test.YtbnnmbajfmodjaaHAnswerPack
import Derived.Test.YtbnnmbajfmodjaaHAnswerUnpack
namespace Go.Proofs.Ytbnnmbajfmodjaa.FA
open Go.RowKit Go.Proofs.YtbnnmbajfmodjaaW.PrintWords Go.Proofs.YtbnnmbajfmodjaaW.PrintLast Go.Proofs.YtbnnmbajfmodjaaW.PrintMore
attribute [local go_sem] max2_int min2_int max_two min_two max_three min_three max_four min_four   -- for this text's walks alone
set_option linter.unusedVariables false
set_option linter.unusedSimpArgs false

/-! ### sextonlaw14_stale: function 10 -/
def sextonlaw14_stale.f (k : Nat)  : Option (Bool) := (answer_Pack.f k 401 0 0 0 0 0 0 (⟨#[]⟩ : ByteArray) ([] : List (S52)) 0).bind fun bt214 => ((answer_Unpack.f k bt214.1).bind fun bt216 => (if bt214.2 = 0 then (if bt216.2.2.2.2.2.2.2.2.2.2 = 0 then (if bt214.1.toList = ([1, 0, 2, 1, 145] : List UInt8) then (some (bt216.1 == 401)) else (none)) else (none)) else (none)))
theorem sextonlaw14_stale.mono : ∀ k, LeO (sextonlaw14_stale.f k ) (sextonlaw14_stale.f (k + 1) ) := by
  intro  k
  unfold sextonlaw14_stale.f
  repeat' first
      | (with_reducible exact answer_Pack.mono _ _ _ _ _ _ _ _ _ _ _)
      | (with_reducible exact answer_Unpack.mono _ _)
      | (with_reducible exact LeO.refl _)
      | (with_reducible exact LeO.none _)
      | (with_reducible refine LeO.ite ?_ ?_)
      | (with_reducible refine LeO.bind ?_ (fun _ => ?_))
      | exact answer_Pack.mono _ _ _ _ _ _ _ _ _ _ _
      | exact answer_Unpack.mono _ _
      | exact LeO.none _
      | refine LeO.ite ?_ ?_
      | refine LeO.bind ?_ (fun _ => ?_)
set_option maxHeartbeats 8000000 in
set_option maxRecDepth 100000 in
theorem sextonlaw14_stale.calls (k : Nat)  (r : Bool) (w : World) (h : sextonlaw14_stale.f k  = some r) :
    Calls Try.prog 10 #[] w fun e w' => e = .returned (.bool r) ∧ Below w.heap.size w w' := by
  have hu29 := Try.underlying29
  have HB := Aside0.mk (Below.refl w.heap.size w)
  have H : ((answer_Pack.f k 401 0 0 0 0 0 0 (⟨#[]⟩ : ByteArray) ([] : List (S52)) 0).bind fun bt214 => ((answer_Unpack.f k bt214.1).bind fun bt216 => (if bt214.2 = 0 then (if bt216.2.2.2.2.2.2.2.2.2.2 = 0 then (if bt214.1.toList = ([1, 0, 2, 1, 145] : List UInt8) then (some (bt216.1 == 401)) else (none)) else (none)) else (none)))) = some r := h
  clear h
  replace H := Option.bind_eq_some_iff.mp H
  obtain ⟨⟨t214, t215⟩, A10, H⟩ := H
  replace H : ((answer_Unpack.f k t214).bind fun bt216 => (if t215 = 0 then (if bt216.2.2.2.2.2.2.2.2.2.2 = 0 then (if t214.toList = ([1, 0, 2, 1, 145] : List UInt8) then (some (bt216.1 == 401)) else (none)) else (none)) else (none))) = some r := H
  have A1 := Aside0.mk A10
  clear A10
  replace H := Option.bind_eq_some_iff.mp H
  obtain ⟨⟨t216, t217, t218, t219, t220, t221, t222, t223, t224, t227, t228⟩, A20, H⟩ := H
  replace H : (if t215 = 0 then (if t228 = 0 then (if t214.toList = ([1, 0, 2, 1, 145] : List UInt8) then (some (t216 == 401)) else (none)) else (none)) else (none)) = some r := H
  have A2 := Aside0.mk A20
  clear A20
  by_cases c3 : t215 = 0
  · rw [if_pos c3] at H
    have c3b0 : (t215 == 0) = true := beq_iff_eq.mpr c3
    have c3b1 : (t215 != 0) = false := bne_eq_false_iff_eq.mpr c3
    clear c3
    by_cases c4 : t228 = 0
    · rw [if_pos c4] at H
      have c4b0 : (t228 == 0) = true := beq_iff_eq.mpr c4
      have c4b1 : (t228 != 0) = false := bne_eq_false_iff_eq.mpr c4
      clear c4
      by_cases c5 : t214.toList = ([1, 0, 2, 1, 145] : List UInt8)
      · rw [if_pos c5] at H
        have c5b0 : (t214.toList == ([1, 0, 2, 1, 145] : List UInt8)) = true := beq_iff_eq.mpr c5
        have c5b1 : (t214.toList != ([1, 0, 2, 1, 145] : List UInt8)) = false := bne_eq_false_iff_eq.mpr c5
        clear c5
        obtain rfl := Option.some.inj H
        go_enter Try.func10, Try.ntmps10
        go_wp2_with (first | ((with_reducible refine gate_callee (f := 6) rfl ?_); refine goesL_ (some 7) rfl rfl Try.func6 (by kernel_rfl) rfl #[.agg #[.int .i64 401, .int .i64 0, .int .i64 0, .int .i64 0, .int .i64 0, .int .i64 0, .int .i64 0, .string (⟨#[]⟩ : ByteArray), .slice none 0 0, .int .i64 0]] rfl (by (try simp only [List.map_toArray, List.map_cons, List.map_nil]); first | done | rfl | (simp only [List.length_drop, List.length_take]; rfl)) ?_; (refine (answer_Pack.calls k 401 0 0 0 0 0 0 (⟨#[]⟩ : ByteArray) _ _ ([] : List (S52)) 0 t214 t215 _ ?side1 ?side2 A1.out).mono ?_); (case side1 => exact Kd.C_nil _ _); (case side2 => exact Nat.le_refl _); rintro e w6 ⟨rfl, hb⟩; refine ⟨_, rfl, ?_⟩; have n0_ := Aside0.mk (below_step (by repeat (first | (with_reducible first | exact HB.out | apply below_alloc | apply pw_below_drewN | apply below_drew1) | exact HB.out)) hb); clear HB; have HB := n0_; clear n0_; (try clear hb); (try clear hb2); (try clear hk); (try clear hi)) | ((with_reducible refine gate_callee (f := 11) rfl ?_); refine goesL_ (some 12) rfl rfl Try.func11 (by kernel_rfl) rfl #[.string t214] rfl (by (try simp only [List.map_toArray, List.map_cons, List.map_nil]); first | done | rfl | (simp only [List.length_drop, List.length_take]; rfl)) ?_; (with_reducible refine (answer_Unpack.calls k t214 t216 t217 t218 t219 t220 t221 t222 t223 t224 t227 t228 _ A2.out).mono ?_); rintro e w7 ⟨v225, rfl, ho0, hb⟩; refine ⟨_, rfl, ?_⟩; have n0_ := Aside0.mk (Kd.R_lower ho0 (below_size (by repeat (first | (with_reducible first | exact HB.out | apply below_alloc | apply pw_below_drewN | apply below_drew1) | exact HB.out)))); have n1_ := Aside0.mk (below_step (by repeat (first | (with_reducible first | exact HB.out | apply below_alloc | apply pw_below_drewN | apply below_drew1) | exact HB.out)) hb); clear HB; have HO226 := n0_; have HB := n1_; clear n0_ n1_; (try clear hb); (try clear hb2); (try clear hk); (try clear hi); (try clear ho0)) | ((with_reducible refine gate_dst (N := 3) rfl ?_); refine box_event ?hg (N := 3) ?hd (cs := #[.int .i64 0, .int .i64 0, .int .i64 0, .int .i64 0, .int .i64 0, .int .i64 0, .int .i64 0, .string (⟨#[]⟩ : ByteArray), .slice none 0 0, .int .i64 0]) (t := 29) ?hr ?_; (case hd => rfl); (case hg => rfl); (case hr => first | (go_simp; done) | (go_simp; rfl)); intro gb229 hg w8 hbox hb; have n0_ := Aside0.mk (Kd.R_below (by (with_reducible repeat (first | apply Kd.R_alloc | apply Kd.R_drewN | apply Kd.R_drew)); exact HO226.out) hb); have n1_ := Aside0.mk (below_step (by repeat (first | (with_reducible first | exact HB.out | apply below_alloc | apply pw_below_drewN | apply below_drew1) | exact HB.out)) hb); have n2_ := Aside0.mk (hbox); have n3_ := Aside0.mk ((by rw [hg]; exact (below_size (by repeat (first | (with_reducible first | exact HB.out | apply below_alloc | apply pw_below_drewN | apply below_drew1) | exact HB.out))) : w.heap.size ≤ gb229)); have n4_ := Aside0.mk ((by rw [hg]; exact (below_size (by repeat (first | (with_reducible first | exact HB.out | apply below_alloc | apply pw_below_drewN | apply below_drew1) | exact HB.out))) : w.heap.size ≤ gb229)); clear HO226; clear HB; have HO226 := n0_; have HB := n1_; have BK229 := n2_; have GW229 := n3_; have GE229 := n4_; clear n0_ n1_ n2_ n3_ n4_; clear hb hbox hg; have hcz9_0 : w8.cell? ⟨gb229, 0, none⟩ = some (.int .i64 0) := (blk_cell BK229.out 0).trans rfl; have hcz9_1 : w8.cell? ⟨gb229, 1, none⟩ = some (.int .i64 0) := (blk_cell BK229.out 1).trans rfl; have hcz9_2 : w8.cell? ⟨gb229, 2, none⟩ = some (.int .i64 0) := (blk_cell BK229.out 2).trans rfl; have hcz9_3 : w8.cell? ⟨gb229, 3, none⟩ = some (.int .i64 0) := (blk_cell BK229.out 3).trans rfl; have hcz9_4 : w8.cell? ⟨gb229, 4, none⟩ = some (.int .i64 0) := (blk_cell BK229.out 4).trans rfl; have hcz9_5 : w8.cell? ⟨gb229, 5, none⟩ = some (.int .i64 0) := (blk_cell BK229.out 5).trans rfl; have hcz9_6 : w8.cell? ⟨gb229, 6, none⟩ = some (.int .i64 0) := (blk_cell BK229.out 6).trans rfl; have hcz9_7 : w8.cell? ⟨gb229, 7, none⟩ = some (.string (⟨#[]⟩ : ByteArray)) := (blk_cell BK229.out 7).trans rfl; have hcz9_8 : w8.cell? ⟨gb229, 8, none⟩ = some (.slice none 0 0) := (blk_cell BK229.out 8).trans rfl; have hcz9_9 : w8.cell? ⟨gb229, 9, none⟩ = some (.int .i64 0) := (blk_cell BK229.out 9).trans rfl; have hfz9_0 := blk_frozen BK229.out 0; have hfz9_1 := blk_frozen BK229.out 1; have hfz9_2 := blk_frozen BK229.out 2; have hfz9_3 := blk_frozen BK229.out 3; have hfz9_4 := blk_frozen BK229.out 4; have hfz9_5 := blk_frozen BK229.out 5; have hfz9_6 := blk_frozen BK229.out 6; have hfz9_7 := blk_frozen BK229.out 7; have hfz9_8 := blk_frozen BK229.out 8; have hfz9_9 := blk_frozen BK229.out 9; obtain ⟨Ao10, co10, eo10⟩ := Kd.R_slice HO226.out; subst eo10))
        go_ret
        exact ⟨by first | rfl | (simp [errW_none, errW_some] <;> rfl) | (simp [*, errW_none, errW_some] <;> rfl), by repeat (first | (with_reducible first | exact HB.out | apply below_alloc | apply pw_below_drewN | apply below_drew1 | refine below_set ?_ GE229.out) | exact HB.out)⟩
      · rw [if_neg c5] at H
        exact absurd H (by simp)
    · rw [if_neg c4] at H
      exact absurd H (by simp)
  · rw [if_neg c3] at H
    exact absurd H (by simp)

end Go.Proofs.Ytbnnmbajfmodjaa.FA
