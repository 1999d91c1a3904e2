/- What the printed functions of the layer attr, and of its reference, come to. -/
import Derived.Test.YtfelpemelohggaaTlv
import Derived.Test.YtfelpemelohggaaNumFns
import Derived.Test.YtfelpemelohggaaFAattrCheck
import Derived.Test.YtfelpemelohggaaFAsextonref07Right
namespace Go.Proofs.Ytfelpemelohggaa.AttrFns
open Go.RowKit Go.Proofs.Ytfelpemelohggaa.FA Go.Proofs.YtfelpemelohggaaW.PrintWords Go.Proofs.YtfelpemelohggaaW.PrintLast Go.Proofs.YtfelpemelohggaaW.PrintMore Go.Proofs.Ytfelpemelohggaa.B Go.Proofs.Ytfelpemelohggaa.TlvFns
set_option linter.unusedVariables false
set_option linter.unusedSimpArgs false
/-- Right attributes. -/
def Rt (a b c d : Int) : Prop := (a = 0 ∧ b = 0 ∧ c = 0 ∧ d = 0) ∨ (0 ≤ c ∧ c ≤ 1048576 ∧ 0 ≤ d ∧ d ≤ 1099511627776 ∧ (a = 1 ∧ 0 ≤ b ∧ b ≤ 64 ∨ a = 2 ∧ b = 1))
instance (a b c d : Int) : Decidable (Rt a b c d) := by unfold Rt; infer_instance
theorem within_is (a b c : Int) : attr_within.f a b c = some (decide (b ≤ a ∧ a ≤ c)) := by
  unfold attr_within.f
  by_cases h : a ≥ b
  · rw [if_pos h]
    by_cases h2 : a ≤ c
    · simp [h2, h]
    · simp [h2]
  · rw [if_neg h]
    have : ¬ b ≤ a := h
    simp [this]
theorem check_is (k : Nat) (hk : 1 ≤ k) (a b c d : Int) : attr_Check.f k a b c d = some (if Rt a b c d then 0 else 70) := by
  obtain ⟨k, rfl⟩ : ∃ m, k = m + 1 := ⟨k - 1, by omega⟩
  unfold attr_Check.f
  simp only [within_is, Option.bind_some, decide_eq_true_eq, attr_Check.j0, Bool.and_eq_true, beq_iff_eq]
  have key : ∀ q : Bool, (q = true ↔ (0 ≤ c ∧ c ≤ 1048576 ∧ 0 ≤ d ∧ d ≤ 1099511627776)) →
      (if a = 0 then (if a = 0 ∧ b = 0 ∧ c = 0 ∧ d = 0 then some 0 else some 70) else (if a = 2 then (if q = true then (if b = 1 then (if 0 ≤ b ∧ b ≤ 64 then some 0 else some 70) else some 70) else some 70) else (if a = 1 then (if q = true then (if 0 ≤ b ∧ b ≤ 64 then some 0 else some 70) else some 70) else some 70))) = some (if Rt a b c d then (0 : Int) else 70) := by
    intro q hq
    by_cases hR : Rt a b c d
    · rw [if_pos hR]
      unfold Rt at hR
      rcases hR with ⟨rfl, rfl, rfl, rfl⟩ | ⟨h1, h2, h3, h4, ⟨rfl, h5, h6⟩ | ⟨rfl, rfl⟩⟩
      · simp
      · rw [if_neg (by decide), if_neg (by decide), if_pos rfl, if_pos (hq.2 ⟨h1, h2, h3, h4⟩), if_pos ⟨h5, h6⟩]
      · rw [if_neg (by decide), if_pos rfl, if_pos (hq.2 ⟨h1, h2, h3, h4⟩), if_pos rfl, if_pos (by decide)]
    · rw [if_neg hR]
      unfold Rt at hR
      by_cases a0 : a = 0
      · rw [if_pos a0, if_neg (fun h => hR (.inl h))]
      · rw [if_neg a0]
        cases q with
        | false => simp
        | true =>
          obtain ⟨h1, h2, h3, h4⟩ := hq.1 rfl
          by_cases a2 : a = 2
          · rw [if_pos a2, if_pos rfl, if_neg (fun hb => hR (.inr ⟨h1, h2, h3, h4, .inr ⟨a2, hb⟩⟩))]
          · rw [if_neg a2]
            by_cases a1 : a = 1
            · rw [if_pos a1, if_pos rfl, if_neg (fun hb => hR (.inr ⟨h1, h2, h3, h4, .inl ⟨a1, hb.1, hb.2⟩⟩))]
            · rw [if_neg a1]
  by_cases hd : 0 ≤ d ∧ d ≤ 1099511627776
  · rw [if_pos hd]
    have h_ := key (decide (0 ≤ c ∧ c ≤ 1048576)) (by simp [hd])
    simpa only [decide_eq_true_eq] using h_
  · rw [if_neg hd]
    have h_ := key false (by simp; omega)
    simpa using h_
theorem right_is (a b c d : Int) : sextonref07_Right.f a b c d = some (decide (Rt a b c d)) := by
  unfold sextonref07_Right.f
  by_cases hR : Rt a b c d
  · rw [decide_eq_true hR]
    unfold Rt at hR
    rcases hR with ⟨rfl, rfl, rfl, rfl⟩ | ⟨h1, h2, h3, h4, ⟨rfl, h5, h6⟩ | ⟨rfl, rfl⟩⟩
    · simp
    · rw [if_neg (by decide), if_neg (by omega), if_neg (by omega), if_neg (by omega), if_neg (by omega), if_pos rfl, if_pos h5, if_pos h6]
    · rw [if_neg (by decide), if_neg (by omega), if_neg (by omega), if_neg (by omega), if_neg (by omega), if_neg (by decide), if_pos rfl]
      rfl
  · rw [decide_eq_false hR]
    unfold Rt at hR
    by_cases a0 : a = 0
    · rw [if_pos a0]
      by_cases b0 : b = 0
      · rw [if_pos b0]
        by_cases c0 : c = 0
        · rw [if_pos c0]
          have : d ≠ 0 := fun h => hR (.inl ⟨a0, b0, c0, h⟩)
          simp [this]
        · rw [if_neg c0]
      · rw [if_neg b0]
    · rw [if_neg a0]
      by_cases c1 : c < 0
      · rw [if_pos c1]
      · rw [if_neg c1]
        by_cases c2 : c > 1048576
        · rw [if_pos c2]
        · rw [if_neg c2]
          by_cases d1 : d < 0
          · rw [if_pos d1]
          · rw [if_neg d1]
            by_cases d2 : d > 1099511627776
            · rw [if_pos d2]
            · rw [if_neg d2]
              have n2 : ¬ (a = 2 ∧ b = 1) := fun h => hR (.inr ⟨by omega, by omega, by omega, by omega, .inr h⟩)
              have n1 : ¬ (a = 1 ∧ 0 ≤ b ∧ b ≤ 64) := fun h => hR (.inr ⟨by omega, by omega, by omega, by omega, .inl h⟩)
              have e2 : (if a = 2 then some (b == 1) else some false) = some false := by
                by_cases h2 : a = 2
                · rw [if_pos h2]
                  have : b ≠ 1 := fun h => n2 ⟨h2, h⟩
                  simp [this]
                · rw [if_neg h2]
              by_cases h1 : a = 1
              · rw [if_pos h1]
                by_cases b1 : b ≥ 0
                · rw [if_pos b1, if_neg (fun h => n1 ⟨h1, b1, h⟩)]
                  exact e2
                · rw [if_neg b1]
                  exact e2
              · rw [if_neg h1]
                exact e2
end Go.Proofs.Ytfelpemelohggaa.AttrFns
