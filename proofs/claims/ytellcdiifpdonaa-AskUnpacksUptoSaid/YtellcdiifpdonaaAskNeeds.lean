/- What each kind of call needs; equal lists of numbers. -/
import Derived.Test.YtellcdiifpdonaaAskFns
namespace Go.Proofs.Ytellcdiifpdonaa.TlvFns
open Go.RowKit Go.Proofs.Ytellcdiifpdonaa.FA Go.Proofs.YtellcdiifpdonaaW.PrintWords Go.Proofs.YtellcdiifpdonaaW.PrintLast Go.Proofs.YtellcdiifpdonaaW.PrintMore Go.Proofs.Ytellcdiifpdonaa.B
set_option linter.unusedVariables false
set_option linter.unusedSimpArgs false
def needsV (a : Int) : List Int × Int :=
  if a = 1 ∨ a = 3 ∨ a = 4 ∨ a = 9 ∨ a = 10 then ([2, 4], 0) else if a = 2 ∨ a = 13 then ([2], 0) else if a = 5 ∨ a = 12 then ([2, 6, 7], 0) else if a = 6 then ([2, 6, 8], 0) else if a = 7 then ([2, 6], 0)
  else if a = 8 then ([2, 3, 4], 0) else if a = 11 then ([2, 3, 4, 5], 0) else if a = 14 then ([7], 0) else ([], 1)
theorem needs_len (a : Int) : (needsV a).1.length ≤ 4 := by
  unfold needsV
  repeat' split
  all_goals decide
theorem ask_needs_is (a : Int) (k : Nat) (hk : 3 ≤ k) : ask_Needs.f k a = some (needsV a) := by
  obtain ⟨k, rfl⟩ : ∃ m, k = m + 3 := ⟨k - 3, by omega⟩
  unfold ask_Needs.f needsV
  by_cases h1 : a = 1
  · subst h1; rfl
  by_cases h3 : a = 3
  · subst h3; rfl
  by_cases h4 : a = 4
  · subst h4; rfl
  by_cases h9 : a = 9
  · subst h9; rfl
  by_cases h10 : a = 10
  · subst h10; rfl
  by_cases h2 : a = 2
  · subst h2; rfl
  by_cases h13 : a = 13
  · subst h13; rfl
  by_cases h5 : a = 5
  · subst h5; rfl
  by_cases h12 : a = 12
  · subst h12; rfl
  by_cases h6 : a = 6
  · subst h6; rfl
  by_cases h7 : a = 7
  · subst h7; rfl
  by_cases h8 : a = 8
  · subst h8; rfl
  by_cases h11 : a = 11
  · subst h11; rfl
  by_cases h14 : a = 14
  · subst h14; rfl
  simp [ask_Needs.j0, ask_Needs.j1, h1, h2, h3, h4, h5, h6, h7, h8, h9, h10, h11, h12, h13, h14]
theorem ref_needs_is (a : Int) (k : Nat) (hk : 4 ≤ k) : sextonref13_Needs.f k a = some (needsV a) := by
  obtain ⟨k, rfl⟩ : ∃ m, k = m + 4 := ⟨k - 4, by omega⟩
  unfold sextonref13_Needs.f needsV
  by_cases h1 : a = 1
  · subst h1; rfl
  by_cases h3 : a = 3
  · subst h3; rfl
  by_cases h4 : a = 4
  · subst h4; rfl
  by_cases h9 : a = 9
  · subst h9; rfl
  by_cases h10 : a = 10
  · subst h10; rfl
  by_cases h2 : a = 2
  · subst h2; rfl
  by_cases h13 : a = 13
  · subst h13; rfl
  by_cases h5 : a = 5
  · subst h5; rfl
  by_cases h12 : a = 12
  · subst h12; rfl
  by_cases h6 : a = 6
  · subst h6; rfl
  by_cases h7 : a = 7
  · subst h7; rfl
  by_cases h8 : a = 8
  · subst h8; rfl
  by_cases h11 : a = 11
  · subst h11; rfl
  by_cases h14 : a = 14
  · subst h14; rfl
  simp [sextonref13_Needs.j0, sextonref13_Needs.j1, sextonref13_Needs.j2, h1, h2, h3, h4, h5, h6, h7, h8, h9, h10, h11, h12, h13, h14]
theorem ints_loop (l : List Int) (hl : l.length ≤ 1000000) (d : Nat) : ∀ (k i : Nat), i + d = l.length → d < k → sextonplain_Ints.l0 k l l (l.length : Int) (i : Int) = some true := by
  induction d with
  | zero =>
    intro k i hd hk
    obtain ⟨k, rfl⟩ : ∃ m, k = m + 1 := ⟨k - 1, by omega⟩
    simp only [sextonplain_Ints.l0]
    rw [if_neg (by omega)]
    simp
  | succ d ih =>
    intro k i hd hk
    obtain ⟨k, rfl⟩ : ∃ m, k = m + 1 := ⟨k - 1, by omega⟩
    simp only [sextonplain_Ints.l0]
    rw [if_pos (by omega), if_neg (by omega), if_pos (by omega), if_pos (by omega), if_pos (by omega), if_pos trivial, wrap64_in (by omega) (by omega), show (i : Int) + 1 = ((i + 1 : Nat) : Int) by omega]
    exact ih k (i + 1) (by omega) (by omega)
theorem ints_self (l : List Int) (hl : l.length ≤ 1000000) (k : Nat) (hk : l.length < k) : sextonplain_Ints.f k l l = some true := ints_loop l hl l.length k 0 (by omega) hk
end Go.Proofs.Ytellcdiifpdonaa.TlvFns
