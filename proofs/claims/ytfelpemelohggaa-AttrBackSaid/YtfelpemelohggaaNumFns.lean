/- Numbers as bytes: what the printed functions Num of the program and of the reference come to. -/
import Derived.Test.YtfelpemelohggaaTlv
import Derived.Test.YtfelpemelohggaaFAtlvNum
import Derived.Test.YtfelpemelohggaaFAsextonref01Num
import Derived.Test.YtfelpemelohggaaByteFns
namespace Go.Proofs.Ytfelpemelohggaa.TlvFns
open Go.RowKit Go.Proofs.Ytfelpemelohggaa.FA Go.Proofs.YtfelpemelohggaaW.PrintWords Go.Proofs.YtfelpemelohggaaW.PrintLast Go.Proofs.YtfelpemelohggaaW.PrintMore Go.Proofs.Ytfelpemelohggaa.B
set_option linter.unusedVariables false
set_option linter.unusedSimpArgs false
theorem wf_i64 {n : Int} (h : (Lit.int .i64 n).wf = true) : -9223372036854775808 ≤ n ∧ n ≤ 9223372036854775807 := by
  simp [Lit.wf, IntKind.min, IntKind.max, IntKind.bits, IntKind.signed] at h
  omega

/-! ### numbers -/
theorem be_cons (i : Nat) : ∀ n : Int, be (i + 1) n = UInt8.ofNat ((n / 256 ^ i) % 256).toNat :: be i n := by
  induction i with
  | zero => intro n; simp [be]
  | succ i ih =>
    intro n
    rw [be, ih (n / 256)]
    have e : n / 256 / 256 ^ i = n / 256 ^ (i + 1) := by
      rw [Int.ediv_ediv_of_nonneg (by decide), Int.pow_succ, Int.mul_comm]
    rw [e, List.cons_append]
    congr 1
theorem num_body (n : Int) (s : Int) (hs : s = 1 ∨ s = 2 ∨ s = 3 ∨ s = 4 ∨ s = 5 ∨ s = 6 ∨ s = 7 ∨ s = 8) (k : Nat) : tlv_Num.j0 (k + 12) n s false = some (⟨(be s.toNat n).toArray⟩, 0) := by
  rcases hs with rfl | rfl | rfl | rfl | rfl | rfl | rfl | rfl <;>
    simp [tlv_Num.j0, tlv_Num.l0, wrap64, shr, IntKind.bits, be, List.replicate, Int.ediv_ediv_of_nonneg] <;> rfl
theorem num_is (n size : Int) (hn : n ≤ 9223372036854775807) (k : Nat) (hk : 12 ≤ k) : tlv_Num.f k n size = some (numVal n size) := by
  obtain ⟨k, rfl⟩ : ∃ m, k = m + 12 := ⟨k - 12, by omega⟩
  unfold tlv_Num.f numVal
  by_cases h1 : size < 1
  · rw [if_pos h1, if_pos (.inl h1)]
    simp [tlv_Num.j0]
  · rw [if_neg h1]
    by_cases h2 : size > 8
    · rw [if_pos h2, if_pos (.inr (.inl h2))]
      simp [tlv_Num.j0]
    · rw [if_neg h2]
      by_cases h3 : n < 0
      · rw [if_pos h3, if_pos (.inr (.inr (.inl h3)))]
        simp [tlv_Num.j0]
      · rw [if_neg h3]
        have hs : size = 1 ∨ size = 2 ∨ size = 3 ∨ size = 4 ∨ size = 5 ∨ size = 6 ∨ size = 7 ∨ size = 8 := by omega
        have hb := num_body n size hs k
        by_cases h8 : size = 8
        · subst h8
          rw [if_neg (by decide), hb, if_neg]
          simp only [Int.reduceToNat, Int.reducePow]
          omega
        · have hw : wrap64 (8 * size) = 8 * size := wrap64_in (by omega) (by omega)
          rw [if_pos (show size < 8 by omega), hw, if_pos (show 0 ≤ 8 * size by omega)]
          have hp : (2 : Int) ^ min (8 * size).toNat IntKind.i64.bits = 256 ^ size.toNat := by
            have : size = 1 ∨ size = 2 ∨ size = 3 ∨ size = 4 ∨ size = 5 ∨ size = 6 ∨ size = 7 := by omega
            rcases this with rfl | rfl | rfl | rfl | rfl | rfl | rfl <;> rfl
          have hpos : (0 : Int) < 256 ^ size.toNat := Int.pow_pos (by decide)
          unfold shr
          rw [hp]
          by_cases h4 : (256 : Int) ^ size.toNat ≤ n
          · have : n / 256 ^ size.toNat ≠ 0 := by
              have := Int.ediv_le_ediv hpos h4
              rw [Int.ediv_self (by omega)] at this
              omega
            rw [if_pos (.inr (.inr (.inr h4))), bne_iff_ne.2 this]
            simp [tlv_Num.j0]
          · rw [if_neg (by omega), Int.ediv_eq_zero_of_lt (by omega) (by omega)]
            exact hb

theorem ref_num_loop (n size : Int) (h0 : 0 ≤ n) (hn : n ≤ 9223372036854775807) (hs : size ≤ 8) (d : Nat) : ∀ (k i : Nat), (i : Int) + d = size → d < k →
    sextonref01_Num.l0 k (n / 256 ^ i) size ⟨(be i n).toArray⟩ i = some (if n / 256 ^ size.toNat > 0 then (⟨#[]⟩, 1) else (⟨(be size.toNat n).toArray⟩, 0)) := by
  induction d with
  | zero =>
    intro k i hi hk
    obtain ⟨k, rfl⟩ : ∃ m, k = m + 1 := ⟨k - 1, by omega⟩
    simp only [sextonref01_Num.l0]
    obtain rfl : size = i := by omega
    rw [if_neg (by omega), Int.toNat_natCast]
    split <;> rfl
  | succ d ih =>
    intro k i hi hk
    obtain ⟨k, rfl⟩ : ∃ m, k = m + 1 := ⟨k - 1, by omega⟩
    have hpos : (0 : Int) < 256 ^ i := Int.pow_pos (by decide)
    have hq : 0 ≤ n / 256 ^ i := Int.ediv_nonneg h0 (by omega)
    have hq1 : n / 256 ^ i ≤ n := Int.ediv_le_self _ h0
    simp only [sextonref01_Num.l0]
    rw [if_pos (by omega), Int.tmod_eq_emod_of_nonneg hq, byte_is _ (by omega) (by omega)]
    simp only [Option.bind_some]
    rw [if_pos (by rw [mk_size (be i n), be_length]; show 1 + i ≤ _; omega), Int.tdiv_eq_ediv_of_nonneg hq, wrap64_in (by omega) (by omega), wrap64_in (by omega) (by omega)]
    have e : n / 256 ^ i / 256 = n / 256 ^ (i + 1) := by rw [Int.ediv_ediv_of_nonneg (by omega), ← Int.pow_succ]
    have e2 : (⟨#[UInt8.ofNat (n / 256 ^ i % 256).toNat]⟩ : ByteArray) ++ ⟨(be i n).toArray⟩ = ⟨(be (i + 1) n).toArray⟩ := by
      apply ext_list
      rw [be_cons, app_list, mk_toList (be i n), mk_toList (_ :: _), Lib.toList_data]
      rfl
    rw [e, e2]
    exact ih k (i + 1) (by omega) (by omega)
theorem ref_num_is (n size : Int) (hn : n ≤ 9223372036854775807) (k : Nat) (hk : 12 ≤ k) : sextonref01_Num.f k n size = some (numVal n size) := by
  obtain ⟨k, rfl⟩ : ∃ m, k = m + 1 := ⟨k - 1, by omega⟩
  unfold sextonref01_Num.f numVal
  by_cases h1 : size < 1
  · rw [if_pos h1, if_pos (.inl h1)]
    simp [sextonref01_Num.j0]
  · rw [if_neg h1]
    by_cases h2 : size > 8
    · rw [if_pos h2, if_pos (.inr (.inl h2))]
      simp [sextonref01_Num.j0]
    · rw [if_neg h2]
      by_cases h3 : n < 0
      · rw [if_pos (.inr (.inr (.inl h3)))]
        simp [sextonref01_Num.j0, h3]
      · simp only [sextonref01_Num.j0, decide_eq_true_eq]
        rw [if_neg h3]
        have hl := ref_num_loop n size (by omega) hn (by omega) size.toNat k 0 (by omega) (by omega)
        rw [Int.pow_zero, Int.ediv_one] at hl
        refine Eq.trans hl ?_
        have hpos : (0 : Int) < 256 ^ size.toNat := Int.pow_pos (by decide)
        by_cases h4 : (256 : Int) ^ size.toNat ≤ n
        · have : n / 256 ^ size.toNat > 0 := by
            have := Int.ediv_le_ediv hpos h4
            rw [Int.ediv_self (by omega)] at this
            omega
          rw [if_pos this, if_pos (.inr (.inr (.inr h4)))]
        · rw [Int.ediv_eq_zero_of_lt (by omega) (by omega), if_neg (by decide), if_neg (by omega)]
end Go.Proofs.Ytfelpemelohggaa.TlvFns
