/- No stamp ever falls, and a change leaves all else as it was. -/
import Derived.Test.YtfelpemelohggaaRdAttrStamps
import Derived.Test.YtfelpemelohggaaAttrOps
import Derived.Test.YtfelpemelohggaaFAsextonlaw07AttrStamps
namespace Go.Proofs.Ytfelpemelohggaa.attrStamps
open Go.RowKit Go.Proofs.Ytfelpemelohggaa.FA Go.Proofs.YtfelpemelohggaaW.PrintWords Go.Proofs.YtfelpemelohggaaW.PrintLast Go.Proofs.YtfelpemelohggaaW.PrintMore Go.Proofs.Ytfelpemelohggaa.Rd Go.Proofs.Ytfelpemelohggaa.B Go.Proofs.Ytfelpemelohggaa.TlvFns Go.Proofs.Ytfelpemelohggaa.AttrFns
set_option linter.unusedVariables false
set_option linter.unusedSimpArgs false
theorem stamps_j0 (k : Nat) (hk : 3 ≤ k) (a b c d n s e g0 g1 g2 g3 : Int) (hg : e = 0 ∨ g0 = 0 ∧ g1 = 0 ∧ g2 = 0 ∧ g3 = 0) :
    sextonlaw07_AttrStamps.j0 (k + 1) n s e false a b c d g0 g1 g2 g3 = some true := by
  simp only [sextonlaw07_AttrStamps.j0]
  rw [if_neg (by decide), link_is k (by omega)]
  simp only [Option.bind_some]
  have gz : ¬ e = 0 → (g0 == 0 && (g1 == 0 && (g2 == 0 && (g3 == 0)))) = true := by
    intro he
    rcases hg with h | ⟨rfl, rfl, rfl, rfl⟩
    · exact absurd h he
    · rfl
  have zero : ∀ v : Int, v ≠ 0 → linkV a b c d n s = (0, 0, 0, 0, v) → (linkV a b c d n s).2.2.2.2 ≠ 0 ∧ ((linkV a b c d n s).1 == 0 && ((linkV a b c d n s).2.1 == 0 && ((linkV a b c d n s).2.2.1 == 0 && ((linkV a b c d n s).2.2.2.1 == 0)))) = true := by
    intro v hv h
    rw [h]
    exact ⟨hv, rfl⟩
  have bad : (linkV a b c d n s).2.2.2.2 ≠ 0 ∧ ((linkV a b c d n s).1 == 0 && ((linkV a b c d n s).2.1 == 0 && ((linkV a b c d n s).2.2.1 == 0 && ((linkV a b c d n s).2.2.2.1 == 0)))) = true →
      (if (linkV a b c d n s).2.2.2.2 = 0 then (if (linkV a b c d n s).2.2.2.1 < d then some false else if (linkV a b c d n s).2.2.2.1 = s then if (linkV a b c d n s).2.1 = wrap64 (b + n) then if (linkV a b c d n s).1 = a then if (linkV a b c d n s).2.2.1 = c then if e = 0 then sextonlaw07_one.f.bind fun t => some t else if (g0 == 0 && (g1 == 0 && (g2 == 0 && g3 == 0))) = true then sextonlaw07_one.f.bind fun t => some t else some false else some false else some false else some false else some false)
        else if e = 0 then if ((linkV a b c d n s).1 == 0 && ((linkV a b c d n s).2.1 == 0 && ((linkV a b c d n s).2.2.1 == 0 && (linkV a b c d n s).2.2.2.1 == 0))) = true then sextonlaw07_one.f.bind fun t => some t else some false
        else if (g0 == 0 && (g1 == 0 && (g2 == 0 && g3 == 0))) = true then if ((linkV a b c d n s).1 == 0 && ((linkV a b c d n s).2.1 == 0 && ((linkV a b c d n s).2.2.1 == 0 && (linkV a b c d n s).2.2.2.1 == 0))) = true then sextonlaw07_one.f.bind fun t => some t else some false else some false) = some true := by
    rintro ⟨h1, h2⟩
    rw [if_neg h1]
    by_cases he : e = 0
    · rw [if_pos he, if_pos h2, one_is]
      rfl
    · rw [if_neg he, if_pos (gz he), if_pos h2, one_is]
      rfl
  by_cases h : Rt a b c d
  · have hb : 0 ≤ b ∧ b ≤ 64 := by unfold Rt at h; omega
    by_cases h1 : n ≠ 1 ∧ n ≠ -1 ∨ s < d ∨ 1099511627776 < s
    · exact bad (zero 1 (by decide) (by unfold linkV; rw [if_pos h, if_pos h1]))
    · by_cases h2 : a ≠ 1
      · exact bad (zero 7 (by decide) (by unfold linkV; rw [if_pos h, if_neg h1, if_pos h2]))
      · by_cases h3 : 64 < b + n
        · exact bad (zero 5 (by decide) (by unfold linkV; rw [if_pos h, if_neg h1, if_neg h2, if_pos h3]))
        · by_cases h4 : b + n < 0
          · exact bad (zero 6 (by decide) (by unfold linkV; rw [if_pos h, if_neg h1, if_neg h2, if_neg h3, if_pos h4]))
          · have hv : linkV a b c d n s = (a, b + n, c, s, 0) := by unfold linkV; rw [if_pos h, if_neg h1, if_neg h2, if_neg h3, if_neg h4]
            rw [hv]
            dsimp only
            rw [if_pos (by trivial), if_neg (by omega), if_pos (by trivial), wrap64_in (n := b + n) (by omega) (by omega), if_pos (by trivial), if_pos (by trivial), if_pos (by trivial), one_is]
            by_cases he : e = 0
            · rw [if_pos he]
              rfl
            · rw [if_neg he, if_pos (gz he)]
              rfl
  · exact bad (zero 70 (by decide) (by unfold linkV; rw [if_neg h]))
theorem pure_AttrStamps : ∀ (a0 : S23) (o0 : r23.ok a0) (a1 : Int) (o1 : r3.ok a1) (a2 : Int) (o2 : r3.ok a2) (w0 : r23.wt a0) (w1 : r3.wt a1) (w2 : r3.wt a2), ∃ k, sextonlaw07_AttrStamps.f k a0.f0 a0.f1 a0.f2 a0.f3 a1 a2 = some true := by
  intro a _ n _ s _ _ _ _
  obtain ⟨a, b, c, d⟩ := a
  refine ⟨5 + 1, ?_⟩
  unfold sextonlaw07_AttrStamps.f
  rw [grow_is (5 + 1) (by decide)]
  simp only [Option.bind_some]
  have zero : ∀ v : Int, v ≠ 0 → growV a b c d n s = (0, 0, 0, 0, v) → sextonlaw07_AttrStamps.j0 (5 + 1) n s v false a b c d 0 0 0 0 = some true := fun v _ _ => stamps_j0 5 (by decide) _ _ _ _ _ _ _ _ _ _ _ (.inr ⟨rfl, rfl, rfl, rfl⟩)
  by_cases h : Rt a b c d
  · by_cases h1 : s < d ∨ 1099511627776 < s
    · have hv : growV a b c d n s = (0, 0, 0, 0, 1) := by unfold growV; rw [if_pos h, if_pos h1]
      rw [hv, if_neg (by decide)]
      exact zero 1 (by decide) hv
    · by_cases h2 : a = 0
      · have hv : growV a b c d n s = (0, 0, 0, 0, 7) := by unfold growV; rw [if_pos h, if_neg h1, if_pos h2]
        rw [hv, if_neg (by decide)]
        exact zero 7 (by decide) hv
      · by_cases h3 : n < 0 ∨ 1048576 < n
        · have hv : growV a b c d n s = (0, 0, 0, 0, 408) := by unfold growV; rw [if_pos h, if_neg h1, if_neg h2, if_pos h3]
          rw [hv, if_neg (by decide)]
          exact zero 408 (by decide) hv
        · have hv : growV a b c d n s = (a, b, n, s, 0) := by unfold growV; rw [if_pos h, if_neg h1, if_neg h2, if_neg h3]
          rw [hv]
          dsimp only
          rw [if_pos (by trivial), if_neg (by omega), if_pos (by trivial), if_pos (by trivial), if_pos (by trivial), show (b != b) = false from by simp]
          exact stamps_j0 5 (by decide) _ _ _ _ _ _ _ _ _ _ _ (.inl rfl)
  · have hv : growV a b c d n s = (0, 0, 0, 0, 70) := by unfold growV; rw [if_neg h]
    rw [hv, if_neg (by decide)]
    exact zero 70 (by decide) hv
end Go.Proofs.Ytfelpemelohggaa.attrStamps
