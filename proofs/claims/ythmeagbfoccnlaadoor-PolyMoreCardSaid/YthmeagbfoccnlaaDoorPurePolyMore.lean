/- The sum of a text with more behind it, from the text's sum alone. -/
import Derived.Test.YthmeagbfoccnlaaDoorRdPolyMore
import Derived.Test.YthmeagbfoccnlaaDoorPolyLaws
namespace Go.Proofs.YthmeagbfoccnlaaDoor.polyMore
open Go.RowKit Go.Proofs.YthmeagbfoccnlaaDoor.FA Go.Proofs.YthmeagbfoccnlaaDoorW.PrintWords Go.Proofs.YthmeagbfoccnlaaDoor.Rd Go.Proofs.YthmeagbfoccnlaaDoor.B
set_option linter.unusedVariables false
theorem pure_PolyMore : ∀ (a0 : Int) (o0 : r3.ok a0) (a1 : ByteArray) (o1 : r9.ok a1) (a2 : ByteArray) (o2 : r9.ok a2) (w0 : r3.wt a0) (w1 : r9.wt a1) (w2 : r9.wt a2), ∃ k, sextonlaw02_PolyMore.f k a0 a1 a2 = some true := by
  intro a _ s _ t _ _ w1 w2
  have hs : s.size ≤ 140737488351232 := w1
  have ht : t.size ≤ 140737488351232 := w2
  have hz : (s ++ t).size = s.size + t.size := ByteArray.size_append
  obtain ⟨k, hk⟩ : ∃ k, k = s.size + t.size + 12 := ⟨_, rfl⟩
  refine ⟨k, ?_⟩
  have e1 := more_is a s (by omega) k (by omega)
  have e2 := ref_more_is a s (by omega) k (by omega)
  have e3 := sum_is s (by omega) k (by omega)
  have e4 := more_is ((sumN s.toList : Nat) : Int) t (by omega) k (by omega)
  have hv : moreV ((sumN s.toList : Nat) : Int) t.toList = (((sumN (s ++ t).toList : Nat) : Int), 0) := by
    have := sumN_lt s.toList
    rw [app_list, sumN_app]
    generalize sumN s.toList = n at this ⊢
    unfold moreV
    rw [if_pos (by omega), Int.toNat_natCast]
  rw [hv] at e4
  have e5 := ref_sum_is (s ++ t) (by omega) k (by omega)
  have e6 := nine_is k (by omega)
  clear hv
  generalize moreV a s.toList = m at e1 e2
  generalize ((sumN s.toList : Nat) : Int) = n at e3 e4
  generalize ((sumN (s ++ t).toList : Nat) : Int) = q at e4 e5
  have hle : s.size + t.size ≤ 9223372036854775807 := by omega
  unfold sextonlaw02_PolyMore.f
  rw [e1, Option.bind_some, e2, Option.bind_some, e3, Option.bind_some, e4, Option.bind_some, if_pos rfl, if_pos rfl, if_pos rfl, if_pos hle, e5, Option.bind_some, if_pos rfl, e6, Option.bind_some]
end Go.Proofs.YthmeagbfoccnlaaDoor.polyMore
