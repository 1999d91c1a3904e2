/- Joined by merge.py out of: FAsextonplainEntries, FAsextonplainReply. -/
import Derived.Test.YtbnnmbajfmodjaaFAx0
import Derived.Test.YtbnnmbajfmodjaaFAEqs
section
-- Written by wip/tools/myprint.py (a patched run of the kit's printer) out of the translation.
namespace Go.Proofs.Ytbnnmbajfmodjaa.FA
open Go.RowKit Go.Proofs.YtbnnmbajfmodjaaW.PrintWords Go.Proofs.YtbnnmbajfmodjaaW.PrintLast Go.Proofs.YtbnnmbajfmodjaaW.PrintMore
attribute [local go_sem] max2_int min2_int max_two min_two max_three min_three max_four min_four   -- for this text's walks alone
set_option linter.unusedVariables false
set_option linter.unusedSimpArgs false

attribute [local go_sem high] eqA52
/-! ### sextonplain_Entries: function 39 -/
def sextonplain_Entries.l0 : Nat → List (S52) → List (S52) → Int → Int → Option (Bool)
  | 0, _, _, _, _ => none
  | k + 1, x0, x1, x7, x8 => if x8 < x7 then (if x8 ≥ (x1.length : Int) then (some false) else (if 0 ≤ x8 then (if x8 < (x0.length : Int) then (if x8 < (x1.length : Int) then (if (!((((rd_T52 x0 x8).f0).toList) == (((rd_T52 x1 x8).f0).toList)) || (!(((rd_T52 x0 x8).f1) == ((rd_T52 x1 x8).f1)) || ((!(((rd_T52 x0 x8).f2.f0) == ((rd_T52 x1 x8).f2.f0)) || (!(((rd_T52 x0 x8).f2.f1) == ((rd_T52 x1 x8).f2.f1))))))) = true then (some false) else (sextonplain_Entries.l0 k x0 x1 x7 (wrap64 (x8 + 1)))) else (none)) else (none)) else (none))) else (some ((x0.length : Int) == (x1.length : Int)))
def sextonplain_Entries.f (k : Nat) (l0 : List (S52)) (l1 : List (S52)) : Option (Bool) := sextonplain_Entries.l0 k l0 l1 (l0.length : Int) 0
theorem sextonplain_Entries.mono_l : ∀ k, (∀ y0 y1 y2 y3, LeO (sextonplain_Entries.l0 k y0 y1 y2 y3) (sextonplain_Entries.l0 (k + 1) y0 y1 y2 y3))
  | 0 => fun _ _ _ _ r h => by simp [sextonplain_Entries.l0] at h
  | k + 1 => by
    have ih0 := sextonplain_Entries.mono_l k
    · intro y0 y1 y2 y3
      unfold sextonplain_Entries.l0
      repeat' first
      | (with_reducible exact ih0 _ _ _ _)
      | (with_reducible exact LeO.refl _)
      | (with_reducible exact LeO.none _)
      | (with_reducible refine LeO.ite ?_ ?_)
      | (with_reducible refine LeO.bind ?_ (fun _ => ?_))
      | exact ih0 _ _ _ _
      | exact LeO.none _
      | refine LeO.ite ?_ ?_
      | refine LeO.bind ?_ (fun _ => ?_)
theorem sextonplain_Entries.mono : ∀ a0 a1 k, LeO (sextonplain_Entries.f k a0 a1) (sextonplain_Entries.f (k + 1) a0 a1) := by
  intro a0 a1 k
  have ih0 := sextonplain_Entries.mono_l k
  unfold sextonplain_Entries.f
  repeat' first
      | (with_reducible exact ih0 _ _ _ _)
      | (with_reducible exact LeO.refl _)
      | (with_reducible exact LeO.none _)
      | (with_reducible refine LeO.ite ?_ ?_)
      | (with_reducible refine LeO.bind ?_ (fun _ => ?_))
      | exact ih0 _ _ _ _
      | exact LeO.none _
      | refine LeO.ite ?_ ?_
      | refine LeO.bind ?_ (fun _ => ?_)
end Go.Proofs.Ytbnnmbajfmodjaa.FA
end

section
-- Written by wip/tools/myprint.py (a patched run of the kit's printer) out of the translation.
namespace Go.Proofs.Ytbnnmbajfmodjaa.FA
open Go.RowKit Go.Proofs.YtbnnmbajfmodjaaW.PrintWords Go.Proofs.YtbnnmbajfmodjaaW.PrintLast Go.Proofs.YtbnnmbajfmodjaaW.PrintMore
attribute [local go_sem] max2_int min2_int max_two min_two max_three min_three max_four min_four   -- for this text's walks alone
set_option linter.unusedVariables false
set_option linter.unusedSimpArgs false

attribute [local go_sem high] eqA24 eqA26
/-! ### sextonplain_Reply: function 13 -/
def sextonplain_Reply.f (k : Nat) (a0_0 : Int) (a0_1 : Int) (a0_2 : Int) (a0_3 : Int) (a0_4 : Int) (a0_5 : Int) (a0_6 : Int) (a0_7 : ByteArray) (l0_8 : List (S52)) (a0_9 : Int) (a1_0 : Int) (a1_1 : Int) (a1_2 : Int) (a1_3 : Int) (a1_4 : Int) (a1_5 : Int) (a1_6 : Int) (a1_7 : ByteArray) (l1_8 : List (S52)) (a1_9 : Int) : Option (Bool) := if a0_0 = a1_0 then (if (a0_1 == a1_1 && (a0_2 == a1_2)) = true then (if (a0_3 == a1_3 && (a0_4 == a1_4 && (a0_5 == a1_5 && (a0_6 == a1_6)))) = true then (if a0_7.toList = a1_7.toList then (if a0_9 = a1_9 then ((sextonplain_Entries.f k l0_8 l1_8).bind fun t290 => (some t290)) else (some false)) else (some false)) else (some false)) else (some false)) else (some false)
theorem sextonplain_Reply.mono : ∀ a0 a1 a2 a3 a4 a5 a6 a7 a8 a9 a10 a11 a12 a13 a14 a15 a16 a17 a18 a19 k, LeO (sextonplain_Reply.f k a0 a1 a2 a3 a4 a5 a6 a7 a8 a9 a10 a11 a12 a13 a14 a15 a16 a17 a18 a19) (sextonplain_Reply.f (k + 1) a0 a1 a2 a3 a4 a5 a6 a7 a8 a9 a10 a11 a12 a13 a14 a15 a16 a17 a18 a19) := by
  intro a0 a1 a2 a3 a4 a5 a6 a7 a8 a9 a10 a11 a12 a13 a14 a15 a16 a17 a18 a19 k
  unfold sextonplain_Reply.f
  repeat' first
      | (with_reducible exact sextonplain_Entries.mono _ _ _)
      | (with_reducible exact LeO.refl _)
      | (with_reducible exact LeO.none _)
      | (with_reducible refine LeO.ite ?_ ?_)
      | (with_reducible refine LeO.bind ?_ (fun _ => ?_))
      | exact sextonplain_Entries.mono _ _ _
      | exact LeO.none _
      | refine LeO.ite ?_ ?_
      | refine LeO.bind ?_ (fun _ => ?_)
end Go.Proofs.Ytbnnmbajfmodjaa.FA
end
