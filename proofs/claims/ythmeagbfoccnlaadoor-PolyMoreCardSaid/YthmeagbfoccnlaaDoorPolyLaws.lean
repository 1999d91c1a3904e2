/- What the laws of poly share: the nine digits' sum, and the reference's More. -/
import Derived.Test.YthmeagbfoccnlaaDoorPolyFns
import Derived.Test.YthmeagbfoccnlaaDoorFAsextonref02More
import Derived.Test.YthmeagbfoccnlaaDoorFAsextonlaw02nine
namespace Go.Proofs.YthmeagbfoccnlaaDoor.FA
open Go.RowKit Go.Proofs.YthmeagbfoccnlaaDoorW.PrintWords Go.Proofs.YthmeagbfoccnlaaDoorW.PrintLast Go.Proofs.YthmeagbfoccnlaaDoorW.PrintMore Go.Proofs.YthmeagbfoccnlaaDoor.B
set_option linter.unusedVariables false
set_option linter.unusedSimpArgs false
theorem nine_is (k : Nat) (hk : 10 ≤ k) : sextonlaw02_nine.f k = some true := by
  unfold sextonlaw02_nine.f
  rw [sum_is _ (by decide) k (by show 9 < k; omega)]
  simp only [Option.bind_some]
  rw [show (⟨#[49, 50, 51, 52, 53, 54, 55, 56, 57]⟩ : ByteArray).toList = [49, 50, 51, 52, 53, 54, 55, 56, 57] from mk_toList [49, 50, 51, 52, 53, 54, 55, 56, 57], sum_nine]
  rfl
theorem ref_more_loop (s : ByteArray) (hs : s.size ≤ 9223372036854775806) (d : Nat) : ∀ (k i r : Nat), s.size - i = d → i ≤ s.size → d + 9 < k → r < 2 ^ 32 →
    sextonref02_More.l0 k s (r : Int) (i : Int) = some (((rollsN r (s.toList.drop i) ^^^ 4294967295 : Nat) : Int), 0) := by
  induction d with
  | zero =>
    intro k i r hd hi hk hr
    obtain ⟨k, rfl⟩ : ∃ m, k = m + 1 := ⟨k - 1, by omega⟩
    have e : s.toList.drop i = [] := List.drop_of_length_le (by rw [len_eq]; omega)
    simp only [sextonref02_More.l0]
    rw [if_neg (by omega), e, not_i64 hr]
    rfl
  | succ d ih =>
    intro k i r hd hi hk hr
    obtain ⟨k, rfl⟩ : ∃ m, k = m + 1 := ⟨k - 1, by omega⟩
    have hlt : i < s.toList.length := by rw [len_eq]; omega
    simp only [sextonref02_More.l0]
    rw [if_pos (by omega), if_pos (by omega), bt_get s i hlt, w64_byte, ref_bits_is hr (UInt8.toNat_lt _) k (by omega)]
    simp only [Option.bind_some]
    rw [wrap64_in (by omega) (by omega), show (i : Int) + 1 = ((i + 1 : Nat) : Int) by omega, ih k (i + 1) _ (by omega) (by omega) (by omega) (bitN_lt hr (UInt8.toNat_lt _)), drop_at s i (by omega)]
    rfl
theorem ref_more_is (a : Int) (s : ByteArray) (hs : s.size ≤ 9223372036854775806) (k : Nat) (hk : s.size + 10 < k) : sextonref02_More.f k a s = some (moreV a s.toList) := by
  obtain ⟨k, rfl⟩ : ∃ m, k = m + 1 := ⟨k - 1, by omega⟩
  unfold sextonref02_More.f moreV
  by_cases h0 : a < 0
  · rw [if_pos h0, if_neg (by omega)]
    simp [sextonref02_More.j0]
  · rw [if_neg h0]
    simp only [sextonref02_More.j0]
    by_cases h1 : a < 4294967296
    · rw [if_neg (by simpa using show a ≤ 4294967295 by omega), if_pos ⟨by omega, h1⟩]
      obtain ⟨n, rfl⟩ := Int.eq_ofNat_of_zero_le (show 0 ≤ a by omega)
      have hn : n < 2 ^ 32 := by omega
      rw [not_i64 hn]
      have := ref_more_loop s hs s.size k 0 (n ^^^ 4294967295) (by omega) (by omega) (by omega) (Nat.xor_lt_two_pow hn (by decide))
      rw [List.drop_zero] at this
      rw [Int.toNat_natCast]
      exact this
    · rw [if_pos (by simpa using show a > 4294967295 by omega), if_neg (by omega)]
end Go.Proofs.YthmeagbfoccnlaaDoor.FA
