/- The number that bytes are: what the printed functions Number of the program and of the reference come to. -/
import Derived.Test.YtfelpemelohggaaTlv
import Derived.Test.YtfelpemelohggaaFAtlvNumber
import Derived.Test.YtfelpemelohggaaFAsextonref01Number
namespace Go.Proofs.Ytfelpemelohggaa.TlvFns
open Go.RowKit Go.Proofs.Ytfelpemelohggaa.FA Go.Proofs.YtfelpemelohggaaW.PrintWords Go.Proofs.YtfelpemelohggaaW.PrintLast Go.Proofs.YtfelpemelohggaaW.PrintMore Go.Proofs.Ytfelpemelohggaa.B
set_option linter.unusedVariables false
set_option linter.unusedSimpArgs false
def numberOf (s : ByteArray) : Int × Int :=
  if s.size < 1 ∨ 8 < s.size then (0, 1) else if 9223372036854775808 ≤ bval s.toList then (0, 4) else (bval s.toList, 0)

theorem pow_le {i : Nat} (h : i ≤ 7) : (256 : Int) ^ i ≤ 72057594037927936 := by
  have : i = 0 ∨ i = 1 ∨ i = 2 ∨ i = 3 ∨ i = 4 ∨ i = 5 ∨ i = 6 ∨ i = 7 := by omega
  rcases this with rfl | rfl | rfl | rfl | rfl | rfl | rfl | rfl <;> decide
theorem bval_take (s : ByteArray) (i : Nat) (hi : i ≤ 7) (hl : i ≤ s.toList.length) : 0 ≤ bval (s.toList.take i) ∧ bval (s.toList.take i) < 72057594037927936 := by
  have h := bval_range (s.toList.take i)
  rw [List.length_take, Nat.min_eq_left hl] at h
  have := pow_le hi
  omega
theorem bval_8 (s : ByteArray) (h : s.size ≤ 8) : 0 ≤ bval s.toList ∧ bval s.toList < 18446744073709551616 := by
  have hr := bval_range s.toList
  rw [len_eq] at hr
  have : (256 : Int) ^ s.size ≤ 18446744073709551616 := by
    have : s.size = 8 ∨ s.size ≤ 7 := by omega
    rcases this with h | h
    · rw [h]; decide
    · have := pow_le h; omega
  omega

theorem number_loop (s : ByteArray) (h8 : s.size ≤ 8) (d : Nat) : ∀ (k i : Nat), i + d = s.size → d < k →
    tlv_Number.l0 k s (bval (s.toList.take i)) (s.size : Int) (i : Int) = some (if 9223372036854775808 ≤ bval s.toList then (0, 4) else (bval s.toList, 0)) := by
  induction d with
  | zero =>
    intro k i hi hk
    obtain ⟨k, rfl⟩ : ∃ m, k = m + 1 := ⟨k - 1, by omega⟩
    have hb := bval_8 s h8
    simp only [tlv_Number.l0]
    rw [if_neg (by omega), List.take_of_length_le (by rw [len_eq]; omega)]
    by_cases h : 9223372036854775808 ≤ bval s.toList
    · rw [if_pos (by unfold wrap64; omega), if_pos h]
    · rw [if_neg (by unfold wrap64; omega), if_neg h, wrap64_in (by omega) (by omega)]
  | succ d ih =>
    intro k i hi hk
    obtain ⟨k, rfl⟩ : ∃ m, k = m + 1 := ⟨k - 1, by omega⟩
    have hl : i < s.toList.length := by rw [len_eq]; omega
    have hb := bval_take s i (by omega) (by omega)
    have hc := (s.toList[i]).toNat_lt
    simp only [tlv_Number.l0]
    rw [if_pos (by omega), if_pos (by omega), if_pos (by omega), bt_get s i hl, wraps_u64 _ (by omega) (by omega), wraps_u64 _ (by omega) (by omega), u64_or8 (by omega) (by omega) (by omega) (by omega), ← bval_snoc, ← take_snoc hl, wrap64_in (by omega) (by omega)]
    exact ih k (i + 1) (by omega) (by omega)

theorem number_is (s : ByteArray) (k : Nat) (hk : 12 ≤ k) : tlv_Number.f k s = some (numberOf s) := by
  obtain ⟨k, rfl⟩ : ∃ m, k = m + 1 := ⟨k - 1, by omega⟩
  unfold tlv_Number.f numberOf
  by_cases h0 : s.toList = []
  · have : s.size = 0 := by rw [← len_eq, h0]; rfl
    rw [if_pos h0, if_pos (by omega)]
    simp [tlv_Number.j0]
  · have h1 : 0 < s.size := by rw [← len_eq]; exact List.length_pos_iff.2 h0
    rw [if_neg h0]
    simp only [tlv_Number.j0, decide_eq_true_eq]
    by_cases h8 : s.size ≤ 8
    · rw [if_neg (by omega), if_neg (by omega)]
      exact number_loop s h8 s.size k 0 (by omega) (by omega)
    · rw [if_pos (by omega), if_pos (by omega)]

theorem ref_number_loop (s : ByteArray) (h8 : s.size ≤ 8) (hs : bval s.toList < 9223372036854775808) (d : Nat) : ∀ (k i : Nat), i + d = s.size → d < k →
    sextonref01_Number.l0 k s (bval (s.toList.take i)) (i : Int) = some (bval s.toList, 0) := by
  induction d with
  | zero =>
    intro k i hi hk
    obtain ⟨k, rfl⟩ : ∃ m, k = m + 1 := ⟨k - 1, by omega⟩
    simp only [sextonref01_Number.l0]
    rw [if_neg (by omega), List.take_of_length_le (by rw [len_eq]; omega)]
  | succ d ih =>
    intro k i hi hk
    obtain ⟨k, rfl⟩ : ∃ m, k = m + 1 := ⟨k - 1, by omega⟩
    have hl : i < s.toList.length := by rw [len_eq]; omega
    have hb := bval_take s i (by omega) (by omega)
    have hc := (s.toList[i]).toNat_lt
    have hn : 256 * bval (s.toList.take i) + ((s.toList[i]).toNat : Int) ≤ 9223372036854775807 := by
      rw [← bval_snoc, ← take_snoc hl]
      have := bval_take_le s.toList (i + 1)
      omega
    simp only [sextonref01_Number.l0]
    rw [if_pos (by omega), if_pos (by omega), bt_get s i hl, wrap64_in (n := 256 * bval (s.toList.take i)) (by omega) (by omega), wrap64_in (n := ((s.toList[i]).toNat : Int)) (by omega) (by omega), wrap64_in (by omega) (by omega), wrap64_in (by omega) (by omega), ← bval_snoc, ← take_snoc hl]
    exact ih k (i + 1) (by omega) (by omega)

theorem top_bit (s : ByteArray) (h : s.size = 8) : bt s 0 > 127 ↔ 9223372036854775808 ≤ bval s.toList := by
  have hl : 0 < s.toList.length := by rw [len_eq]; omega
  have hb := bt_get s 0 hl
  have h8 : s.toList.length = 8 := by rw [len_eq]; exact h
  have hc : s.toList = s.toList[0] :: s.toList.tail := by
    have h1 := List.getElem_cons_drop hl
    rw [List.drop_zero, Nat.zero_add, List.drop_one] at h1
    exact h1.symm
  have ht : s.toList.tail.length = 7 := by rw [List.length_tail, h8]
  have hv : bval s.toList = ((s.toList[0]).toNat : Int) * 72057594037927936 + bval s.toList.tail := by
    have := bval_cons (s.toList[0]) s.toList.tail
    rw [ht, ← hc] at this
    exact this
  have hr := bval_range s.toList.tail
  rw [ht] at hr
  have hr2 : bval s.toList.tail < 72057594037927936 := hr.2
  rw [show (0 : Int) = ((0 : Nat) : Int) from rfl, hb, hv]
  omega

theorem ref_number_is (s : ByteArray) (k : Nat) (hk : 14 ≤ k) : sextonref01_Number.f k s = some (numberOf s) := by
  obtain ⟨k, rfl⟩ : ∃ m, k = m + 2 := ⟨k - 2, by omega⟩
  unfold sextonref01_Number.f numberOf
  by_cases h0 : s.size < 1
  · rw [if_pos (by omega), if_pos (by omega)]
    simp [sextonref01_Number.j0]
  · rw [if_neg (by omega)]
    simp only [sextonref01_Number.j0, decide_eq_true_eq]
    by_cases h8 : s.size ≤ 8
    · rw [if_neg (show ¬ (s.size < 1 ∨ 8 < s.size) by omega), if_neg (by omega)]
      by_cases h : s.size = 8
      · rw [if_pos (by omega), if_pos (by omega)]
        simp only [sextonref01_Number.j1, decide_eq_true_eq]
        have ht := top_bit s h
        by_cases hv : 9223372036854775808 ≤ bval s.toList
        · rw [if_pos (ht.2 hv), if_pos hv]
        · rw [if_neg (fun hx => hv (ht.1 hx)), if_neg hv]
          exact ref_number_loop s h8 (by omega) s.size k 0 (by omega) (by omega)
      · rw [if_neg (by omega)]
        simp only [sextonref01_Number.j1]
        rw [if_neg (by simp)]
        have hr := bval_range s.toList
        rw [len_eq] at hr
        have := pow_le (show s.size ≤ 7 by omega)
        rw [if_neg (by omega)]
        exact ref_number_loop s h8 (by omega) s.size k 0 (by omega) (by omega)
    · rw [if_pos (by omega), if_pos (by omega)]

end Go.Proofs.Ytfelpemelohggaa.TlvFns
