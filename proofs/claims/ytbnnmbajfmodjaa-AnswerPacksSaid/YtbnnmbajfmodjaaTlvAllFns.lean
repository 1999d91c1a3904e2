/- Joined by merge.py out of: ByteFns, NumFns, NumberFns, FieldFns, PackFns, RefPackFns, UnpackFns, RefUnpackFns, CallP. -/
import Derived.Test.YtbnnmbajfmodjaaTlv
import Derived.Test.YtbnnmbajfmodjaaFARef01
import Derived.Test.YtbnnmbajfmodjaaFATlvAll
import Derived.Test.YtbnnmbajfmodjaaFAx0
import Derived.Test.YtbnnmbajfmodjaaFAsextonref01Pack
section
/- A text of one byte. -/
namespace Go.Proofs.Ytbnnmbajfmodjaa.TlvFns
open Go.RowKit Go.Proofs.Ytbnnmbajfmodjaa.FA Go.Proofs.YtbnnmbajfmodjaaW.PrintWords Go.Proofs.YtbnnmbajfmodjaaW.PrintLast Go.Proofs.YtbnnmbajfmodjaaW.PrintMore Go.Proofs.Ytbnnmbajfmodjaa.B
set_option linter.unusedVariables false
set_option linter.unusedSimpArgs false
theorem byte_is (n : Int) (h0 : 0 ≤ n) (h1 : n < 256) : sextonref01_Byte.f n = some ⟨#[UInt8.ofNat n.toNat]⟩ := by
  unfold sextonref01_Byte.f
  rw [Int.emod_eq_of_lt h0 h1]
  rfl
end Go.Proofs.Ytbnnmbajfmodjaa.TlvFns
end

section
/- Numbers as bytes: what the printed functions Num of the program and of the reference come to. -/
namespace Go.Proofs.Ytbnnmbajfmodjaa.TlvFns
open Go.RowKit Go.Proofs.Ytbnnmbajfmodjaa.FA Go.Proofs.YtbnnmbajfmodjaaW.PrintWords Go.Proofs.YtbnnmbajfmodjaaW.PrintLast Go.Proofs.YtbnnmbajfmodjaaW.PrintMore Go.Proofs.Ytbnnmbajfmodjaa.B
set_option linter.unusedVariables false
set_option linter.unusedSimpArgs false
/-! ### numbers -/
theorem be_cons (i : Nat) : ∀ n : Int, be (i + 1) n = UInt8.ofNat ((n / 256 ^ i) % 256).toNat :: be i n := by
  induction i with
  | zero => intro n; simp [be]
  | succ i ih =>
    intro n
    rw [be, ih (n / 256)]
    have e : n / 256 / 256 ^ i = n / 256 ^ (i + 1) := by
      rw [Int.ediv_ediv_of_nonneg (by decide), Int.pow_succ, Int.mul_comm]
    rw [e, List.cons_append]
    congr 1
theorem num_body (n : Int) (s : Int) (hs : s = 1 ∨ s = 2 ∨ s = 3 ∨ s = 4 ∨ s = 5 ∨ s = 6 ∨ s = 7 ∨ s = 8) (k : Nat) : tlv_Num.j0 (k + 12) n s false = some (⟨(be s.toNat n).toArray⟩, 0) := by
  rcases hs with rfl | rfl | rfl | rfl | rfl | rfl | rfl | rfl <;>
    simp [tlv_Num.j0, tlv_Num.l0, wrap64, shr, IntKind.bits, be, List.replicate, Int.ediv_ediv_of_nonneg] <;> rfl
theorem num_is (n size : Int) (hn : n ≤ 9223372036854775807) (k : Nat) (hk : 12 ≤ k) : tlv_Num.f k n size = some (numVal n size) := by
  obtain ⟨k, rfl⟩ : ∃ m, k = m + 12 := ⟨k - 12, by omega⟩
  unfold tlv_Num.f numVal
  by_cases h1 : size < 1
  · rw [if_pos h1, if_pos (.inl h1)]
    simp [tlv_Num.j0]
  · rw [if_neg h1]
    by_cases h2 : size > 8
    · rw [if_pos h2, if_pos (.inr (.inl h2))]
      simp [tlv_Num.j0]
    · rw [if_neg h2]
      by_cases h3 : n < 0
      · rw [if_pos h3, if_pos (.inr (.inr (.inl h3)))]
        simp [tlv_Num.j0]
      · rw [if_neg h3]
        have hs : size = 1 ∨ size = 2 ∨ size = 3 ∨ size = 4 ∨ size = 5 ∨ size = 6 ∨ size = 7 ∨ size = 8 := by omega
        have hb := num_body n size hs k
        by_cases h8 : size = 8
        · subst h8
          rw [if_neg (by decide), hb, if_neg]
          simp only [Int.reduceToNat, Int.reducePow]
          omega
        · have hw : wrap64 (8 * size) = 8 * size := wrap64_in (by omega) (by omega)
          rw [if_pos (show size < 8 by omega), hw, if_pos (show 0 ≤ 8 * size by omega)]
          have hp : (2 : Int) ^ min (8 * size).toNat IntKind.i64.bits = 256 ^ size.toNat := by
            have : size = 1 ∨ size = 2 ∨ size = 3 ∨ size = 4 ∨ size = 5 ∨ size = 6 ∨ size = 7 := by omega
            rcases this with rfl | rfl | rfl | rfl | rfl | rfl | rfl <;> rfl
          have hpos : (0 : Int) < 256 ^ size.toNat := Int.pow_pos (by decide)
          unfold shr
          rw [hp]
          by_cases h4 : (256 : Int) ^ size.toNat ≤ n
          · have : n / 256 ^ size.toNat ≠ 0 := by
              have := Int.ediv_le_ediv hpos h4
              rw [Int.ediv_self (by omega)] at this
              omega
            rw [if_pos (.inr (.inr (.inr h4))), bne_iff_ne.2 this]
            simp [tlv_Num.j0]
          · rw [if_neg (by omega), Int.ediv_eq_zero_of_lt (by omega) (by omega)]
            exact hb

theorem ref_num_loop (n size : Int) (h0 : 0 ≤ n) (hn : n ≤ 9223372036854775807) (hs : size ≤ 8) (d : Nat) : ∀ (k i : Nat), (i : Int) + d = size → d < k →
    sextonref01_Num.l0 k (n / 256 ^ i) size ⟨(be i n).toArray⟩ i = some (if n / 256 ^ size.toNat > 0 then (⟨#[]⟩, 1) else (⟨(be size.toNat n).toArray⟩, 0)) := by
  induction d with
  | zero =>
    intro k i hi hk
    obtain ⟨k, rfl⟩ : ∃ m, k = m + 1 := ⟨k - 1, by omega⟩
    simp only [sextonref01_Num.l0]
    obtain rfl : size = i := by omega
    rw [if_neg (by omega), Int.toNat_natCast]
    split <;> rfl
  | succ d ih =>
    intro k i hi hk
    obtain ⟨k, rfl⟩ : ∃ m, k = m + 1 := ⟨k - 1, by omega⟩
    have hpos : (0 : Int) < 256 ^ i := Int.pow_pos (by decide)
    have hq : 0 ≤ n / 256 ^ i := Int.ediv_nonneg h0 (by omega)
    have hq1 : n / 256 ^ i ≤ n := Int.ediv_le_self _ h0
    simp only [sextonref01_Num.l0]
    rw [if_pos (by omega), Int.tmod_eq_emod_of_nonneg hq, byte_is _ (by omega) (by omega)]
    simp only [Option.bind_some]
    rw [if_pos (by rw [mk_size (be i n), be_length]; show 1 + i ≤ _; omega), Int.tdiv_eq_ediv_of_nonneg hq, wrap64_in (by omega) (by omega), wrap64_in (by omega) (by omega)]
    have e : n / 256 ^ i / 256 = n / 256 ^ (i + 1) := by rw [Int.ediv_ediv_of_nonneg (by omega), ← Int.pow_succ]
    have e2 : (⟨#[UInt8.ofNat (n / 256 ^ i % 256).toNat]⟩ : ByteArray) ++ ⟨(be i n).toArray⟩ = ⟨(be (i + 1) n).toArray⟩ := by
      apply ext_list
      rw [be_cons, app_list, mk_toList (be i n), mk_toList (_ :: _), Lib.toList_data]
      rfl
    rw [e, e2]
    exact ih k (i + 1) (by omega) (by omega)
theorem ref_num_is (n size : Int) (hn : n ≤ 9223372036854775807) (k : Nat) (hk : 12 ≤ k) : sextonref01_Num.f k n size = some (numVal n size) := by
  obtain ⟨k, rfl⟩ : ∃ m, k = m + 1 := ⟨k - 1, by omega⟩
  unfold sextonref01_Num.f numVal
  by_cases h1 : size < 1
  · rw [if_pos h1, if_pos (.inl h1)]
    simp [sextonref01_Num.j0]
  · rw [if_neg h1]
    by_cases h2 : size > 8
    · rw [if_pos h2, if_pos (.inr (.inl h2))]
      simp [sextonref01_Num.j0]
    · rw [if_neg h2]
      by_cases h3 : n < 0
      · rw [if_pos (.inr (.inr (.inl h3)))]
        simp [sextonref01_Num.j0, h3]
      · simp only [sextonref01_Num.j0, decide_eq_true_eq]
        rw [if_neg h3]
        have hl := ref_num_loop n size (by omega) hn (by omega) size.toNat k 0 (by omega) (by omega)
        rw [Int.pow_zero, Int.ediv_one] at hl
        refine Eq.trans hl ?_
        have hpos : (0 : Int) < 256 ^ size.toNat := Int.pow_pos (by decide)
        by_cases h4 : (256 : Int) ^ size.toNat ≤ n
        · have : n / 256 ^ size.toNat > 0 := by
            have := Int.ediv_le_ediv hpos h4
            rw [Int.ediv_self (by omega)] at this
            omega
          rw [if_pos this, if_pos (.inr (.inr (.inr h4)))]
        · rw [Int.ediv_eq_zero_of_lt (by omega) (by omega), if_neg (by decide), if_neg (by omega)]
end Go.Proofs.Ytbnnmbajfmodjaa.TlvFns
end

section
/- The number that bytes are: what the printed functions Number of the program and of the reference come to. -/
namespace Go.Proofs.Ytbnnmbajfmodjaa.TlvFns
open Go.RowKit Go.Proofs.Ytbnnmbajfmodjaa.FA Go.Proofs.YtbnnmbajfmodjaaW.PrintWords Go.Proofs.YtbnnmbajfmodjaaW.PrintLast Go.Proofs.YtbnnmbajfmodjaaW.PrintMore Go.Proofs.Ytbnnmbajfmodjaa.B
set_option linter.unusedVariables false
set_option linter.unusedSimpArgs false
def numberOf (s : ByteArray) : Int × Int :=
  if s.size < 1 ∨ 8 < s.size then (0, 1) else if 9223372036854775808 ≤ bval s.toList then (0, 4) else (bval s.toList, 0)

theorem pow_le {i : Nat} (h : i ≤ 7) : (256 : Int) ^ i ≤ 72057594037927936 := by
  have : i = 0 ∨ i = 1 ∨ i = 2 ∨ i = 3 ∨ i = 4 ∨ i = 5 ∨ i = 6 ∨ i = 7 := by omega
  rcases this with rfl | rfl | rfl | rfl | rfl | rfl | rfl | rfl <;> decide
theorem bval_take (s : ByteArray) (i : Nat) (hi : i ≤ 7) (hl : i ≤ s.toList.length) : 0 ≤ bval (s.toList.take i) ∧ bval (s.toList.take i) < 72057594037927936 := by
  have h := bval_range (s.toList.take i)
  rw [List.length_take, Nat.min_eq_left hl] at h
  have := pow_le hi
  omega
theorem bval_8 (s : ByteArray) (h : s.size ≤ 8) : 0 ≤ bval s.toList ∧ bval s.toList < 18446744073709551616 := by
  have hr := bval_range s.toList
  rw [len_eq] at hr
  have : (256 : Int) ^ s.size ≤ 18446744073709551616 := by
    have : s.size = 8 ∨ s.size ≤ 7 := by omega
    rcases this with h | h
    · rw [h]; decide
    · have := pow_le h; omega
  omega

theorem number_loop (s : ByteArray) (h8 : s.size ≤ 8) (d : Nat) : ∀ (k i : Nat), i + d = s.size → d < k →
    tlv_Number.l0 k s (bval (s.toList.take i)) (s.size : Int) (i : Int) = some (if 9223372036854775808 ≤ bval s.toList then (0, 4) else (bval s.toList, 0)) := by
  induction d with
  | zero =>
    intro k i hi hk
    obtain ⟨k, rfl⟩ : ∃ m, k = m + 1 := ⟨k - 1, by omega⟩
    have hb := bval_8 s h8
    simp only [tlv_Number.l0]
    rw [if_neg (by omega), List.take_of_length_le (by rw [len_eq]; omega)]
    by_cases h : 9223372036854775808 ≤ bval s.toList
    · rw [if_pos (by unfold wrap64; omega), if_pos h]
    · rw [if_neg (by unfold wrap64; omega), if_neg h, wrap64_in (by omega) (by omega)]
  | succ d ih =>
    intro k i hi hk
    obtain ⟨k, rfl⟩ : ∃ m, k = m + 1 := ⟨k - 1, by omega⟩
    have hl : i < s.toList.length := by rw [len_eq]; omega
    have hb := bval_take s i (by omega) (by omega)
    have hc := (s.toList[i]).toNat_lt
    simp only [tlv_Number.l0]
    rw [if_pos (by omega), if_pos (by omega), if_pos (by omega), bt_get s i hl, wraps_u64 _ (by omega) (by omega), wraps_u64 _ (by omega) (by omega), u64_or8 (by omega) (by omega) (by omega) (by omega), ← bval_snoc, ← take_snoc hl, wrap64_in (by omega) (by omega)]
    exact ih k (i + 1) (by omega) (by omega)

theorem number_is (s : ByteArray) (k : Nat) (hk : 12 ≤ k) : tlv_Number.f k s = some (numberOf s) := by
  obtain ⟨k, rfl⟩ : ∃ m, k = m + 1 := ⟨k - 1, by omega⟩
  unfold tlv_Number.f numberOf
  by_cases h0 : s.toList = []
  · have : s.size = 0 := by rw [← len_eq, h0]; rfl
    rw [if_pos h0, if_pos (by omega)]
    simp [tlv_Number.j0]
  · have h1 : 0 < s.size := by rw [← len_eq]; exact List.length_pos_iff.2 h0
    rw [if_neg h0]
    simp only [tlv_Number.j0, decide_eq_true_eq]
    by_cases h8 : s.size ≤ 8
    · rw [if_neg (by omega), if_neg (by omega)]
      exact number_loop s h8 s.size k 0 (by omega) (by omega)
    · rw [if_pos (by omega), if_pos (by omega)]

theorem ref_number_loop (s : ByteArray) (h8 : s.size ≤ 8) (hs : bval s.toList < 9223372036854775808) (d : Nat) : ∀ (k i : Nat), i + d = s.size → d < k →
    sextonref01_Number.l0 k s (bval (s.toList.take i)) (i : Int) = some (bval s.toList, 0) := by
  induction d with
  | zero =>
    intro k i hi hk
    obtain ⟨k, rfl⟩ : ∃ m, k = m + 1 := ⟨k - 1, by omega⟩
    simp only [sextonref01_Number.l0]
    rw [if_neg (by omega), List.take_of_length_le (by rw [len_eq]; omega)]
  | succ d ih =>
    intro k i hi hk
    obtain ⟨k, rfl⟩ : ∃ m, k = m + 1 := ⟨k - 1, by omega⟩
    have hl : i < s.toList.length := by rw [len_eq]; omega
    have hb := bval_take s i (by omega) (by omega)
    have hc := (s.toList[i]).toNat_lt
    have hn : 256 * bval (s.toList.take i) + ((s.toList[i]).toNat : Int) ≤ 9223372036854775807 := by
      rw [← bval_snoc, ← take_snoc hl]
      have := bval_take_le s.toList (i + 1)
      omega
    simp only [sextonref01_Number.l0]
    rw [if_pos (by omega), if_pos (by omega), bt_get s i hl, wrap64_in (n := 256 * bval (s.toList.take i)) (by omega) (by omega), wrap64_in (n := ((s.toList[i]).toNat : Int)) (by omega) (by omega), wrap64_in (by omega) (by omega), wrap64_in (by omega) (by omega), ← bval_snoc, ← take_snoc hl]
    exact ih k (i + 1) (by omega) (by omega)

theorem top_bit (s : ByteArray) (h : s.size = 8) : bt s 0 > 127 ↔ 9223372036854775808 ≤ bval s.toList := by
  have hl : 0 < s.toList.length := by rw [len_eq]; omega
  have hb := bt_get s 0 hl
  have h8 : s.toList.length = 8 := by rw [len_eq]; exact h
  have hc : s.toList = s.toList[0] :: s.toList.tail := by
    have h1 := List.getElem_cons_drop hl
    rw [List.drop_zero, Nat.zero_add, List.drop_one] at h1
    exact h1.symm
  have ht : s.toList.tail.length = 7 := by rw [List.length_tail, h8]
  have hv : bval s.toList = ((s.toList[0]).toNat : Int) * 72057594037927936 + bval s.toList.tail := by
    have := bval_cons (s.toList[0]) s.toList.tail
    rw [ht, ← hc] at this
    exact this
  have hr := bval_range s.toList.tail
  rw [ht] at hr
  have hr2 : bval s.toList.tail < 72057594037927936 := hr.2
  rw [show (0 : Int) = ((0 : Nat) : Int) from rfl, hb, hv]
  omega

theorem ref_number_is (s : ByteArray) (k : Nat) (hk : 14 ≤ k) : sextonref01_Number.f k s = some (numberOf s) := by
  obtain ⟨k, rfl⟩ : ∃ m, k = m + 2 := ⟨k - 2, by omega⟩
  unfold sextonref01_Number.f numberOf
  by_cases h0 : s.size < 1
  · rw [if_pos (by omega), if_pos (by omega)]
    simp [sextonref01_Number.j0]
  · rw [if_neg (by omega)]
    simp only [sextonref01_Number.j0, decide_eq_true_eq]
    by_cases h8 : s.size ≤ 8
    · rw [if_neg (show ¬ (s.size < 1 ∨ 8 < s.size) by omega), if_neg (by omega)]
      by_cases h : s.size = 8
      · rw [if_pos (by omega), if_pos (by omega)]
        simp only [sextonref01_Number.j1, decide_eq_true_eq]
        have ht := top_bit s h
        by_cases hv : 9223372036854775808 ≤ bval s.toList
        · rw [if_pos (ht.2 hv), if_pos hv]
        · rw [if_neg (fun hx => hv (ht.1 hx)), if_neg hv]
          exact ref_number_loop s h8 (by omega) s.size k 0 (by omega) (by omega)
      · rw [if_neg (by omega)]
        simp only [sextonref01_Number.j1]
        rw [if_neg (by simp)]
        have hr := bval_range s.toList
        rw [len_eq] at hr
        have := pow_le (show s.size ≤ 7 by omega)
        rw [if_neg (by omega)]
        exact ref_number_loop s h8 (by omega) s.size k 0 (by omega) (by omega)
    · rw [if_pos (by omega), if_pos (by omega)]

end Go.Proofs.Ytbnnmbajfmodjaa.TlvFns
end

section
/- Fields of the program and of the reference as plain pairs. -/
namespace Go.Proofs.Ytbnnmbajfmodjaa.TlvFns
open Go.RowKit Go.Proofs.Ytbnnmbajfmodjaa.FA Go.Proofs.YtbnnmbajfmodjaaW.PrintWords Go.Proofs.YtbnnmbajfmodjaaW.PrintLast Go.Proofs.YtbnnmbajfmodjaaW.PrintMore Go.Proofs.Ytbnnmbajfmodjaa.B
set_option linter.unusedVariables false
set_option linter.unusedSimpArgs false
theorem rd_get {l : List S46} {i : Nat} (h : i < l.length) : rd_T46 l (i : Int) = l[i] := by
  unfold rd_T46
  rw [Int.toNat_natCast, List.getD_eq_getElem?_getD, List.getElem?_eq_getElem h]
  rfl
theorem rd_get' {l : List S78} {i : Nat} (h : i < l.length) : rd_T78 l (i : Int) = l[i] := by
  unfold rd_T78
  rw [Int.toNat_natCast, List.getD_eq_getElem?_getD, List.getElem?_eq_getElem h]
  rfl
def fl (l : List S46) : List (Int × ByteArray) := l.map fun x => (x.f0, x.f1)
def fr (l : List S78) : List (Int × ByteArray) := l.map fun x => (x.f0, x.f1)
theorem bytes_str (xs : List Int) : (strOfNums xs).toList = xs.map fun n => UInt8.ofNat n.toNat := by rw [Lib.toList_data]; rfl

end Go.Proofs.Ytbnnmbajfmodjaa.TlvFns
end

section
/- Fields as bytes: what the printed function Pack of the program comes to. -/
namespace Go.Proofs.Ytbnnmbajfmodjaa.TlvFns
open Go.RowKit Go.Proofs.Ytbnnmbajfmodjaa.FA Go.Proofs.YtbnnmbajfmodjaaW.PrintWords Go.Proofs.YtbnnmbajfmodjaaW.PrintLast Go.Proofs.YtbnnmbajfmodjaaW.PrintMore Go.Proofs.Ytbnnmbajfmodjaa.B
set_option linter.unusedVariables false
set_option linter.unusedSimpArgs false
theorem wrong_is (t : Int) (v : ByteArray) (b : Int) (k : Nat) (hk : 1 ≤ k) : tlv_Field_wrong.f k t v b = some (if t < 1 ∨ 255 < t then 1 else if 65535 < v.size then 2 else if t < b then 11 else 0) := by
  obtain ⟨k, rfl⟩ : ∃ m, k = m + 1 := ⟨k - 1, by omega⟩
  unfold tlv_Field_wrong.f
  simp only [tlv_Field_wrong.j0, decide_eq_true_eq]
  by_cases h1 : t < 1
  · rw [if_pos h1, if_pos (show t < 1 ∨ 255 < t from .inl h1), if_pos trivial]
  · rw [if_neg h1]
    by_cases h2 : t > 255
    · rw [if_pos h2, if_pos (.inr h2)]
    · rw [if_neg h2, if_neg (show ¬ (t < 1 ∨ 255 < t) by omega)]
      by_cases h3 : 65535 < v.size
      · rw [if_pos (show (v.size : Int) > 65535 by omega), if_pos h3]
      · rw [if_neg (show ¬ (v.size : Int) > 65535 by omega), if_neg h3]
        by_cases h4 : t < b
        · rw [if_pos h4, if_pos h4]
        · rw [if_neg h4, if_neg h4]


theorem pack_loop (l : List S46) (hl : l.length ≤ 9223372036854775806) (d : Nat) : ∀ (k i : Nat) (b : Int) (x : List Int), i + d = l.length → d + 1 < k → x.length + (packB (fl (l.drop i))).length < 140737488355328 →
    tlv_Pack.l0 k x b l (l.length : Int) (i : Int) = some (if packE b (fl (l.drop i)) = 0 then (⟨((x.map fun n => UInt8.ofNat n.toNat) ++ packB (fl (l.drop i))).toArray⟩, 0) else (⟨#[]⟩, packE b (fl (l.drop i)))) := by
  induction d with
  | zero =>
    intro k i b x hi hk hs
    obtain ⟨k, rfl⟩ : ∃ m, k = m + 1 := ⟨k - 1, by omega⟩
    simp only [tlv_Pack.l0]
    rw [if_neg (by omega), List.drop_of_length_le (by omega), if_pos (show packE b (fl []) = 0 from rfl)]
    refine congrArg some (Prod.ext ?_ rfl)
    refine ext_list ?_
    rw [bytes_str, mk_toList]
    rw [show packB (fl []) = [] from rfl, List.append_nil]
  | succ d ih =>
    intro k i b x hi hk hs
    obtain ⟨k, rfl⟩ : ∃ m, k = m + 1 := ⟨k - 1, by omega⟩
    have h : i < l.length := by omega
    simp only [tlv_Pack.l0]
    rw [if_pos (by omega), if_pos (by omega), if_pos (by omega), rd_get h, wrong_is _ _ _ k (by omega)]
    have hd : fl (l.drop i) = (l[i].f0, l[i].f1) :: fl (l.drop (i + 1)) := by rw [List.drop_eq_getElem_cons h]; rfl
    rw [hd] at hs ⊢
    simp only [Option.bind_some, packE]
    by_cases h1 : l[i].f0 < 1 ∨ 255 < l[i].f0
    · rw [if_pos h1, if_neg (by decide), if_pos h1, if_neg (by decide)]
    · rw [if_neg h1]
      by_cases h2 : 65535 < l[i].f1.size
      · rw [if_pos h2, if_neg (by decide), if_neg h1, if_pos h2, if_neg (by decide)]
      · rw [if_neg h2]
        by_cases h3 : l[i].f0 < b
        · rw [if_pos h3, if_neg (by decide), if_neg h1, if_neg h2, if_pos h3, if_neg (by decide)]
        · rw [if_neg h3, if_pos rfl, if_neg h1, if_neg h2, if_neg h3]
          have hL : (packB ((l[i].f0, l[i].f1) :: fl (l.drop (i + 1)))).length = l[i].f1.size + 3 + (packB (fl (l.drop (i + 1)))).length := by
            simp only [packB, List.length_append, fieldB_length]
          rw [hL] at hs
          rw [if_pos (by simp only [List.length_cons, List.length_nil]; omega), if_pos (by simp only [List.length_append, List.length_cons, List.length_nil]; omega), wrap64_in (by omega) (by omega)]
          have hx := ih k (i + 1) (l[i].f0) ((x ++ [l[i].f0 % 256, (l[i].f1.size : Int) / 256 % 256, (l[i].f1.size : Int) % 256]) ++ bytesOf l[i].f1) (by omega) (by omega)
            (by simp only [List.length_append, List.length_cons, List.length_nil, bytesOf_length]; omega)
          refine Eq.trans hx ?_
          have e : ((x ++ [l[i].f0 % 256, (l[i].f1.size : Int) / 256 % 256, (l[i].f1.size : Int) % 256]) ++ bytesOf l[i].f1).map (fun n => UInt8.ofNat n.toNat) = x.map (fun n => UInt8.ofNat n.toNat) ++ fieldB l[i].f0 l[i].f1 := by
            rw [List.map_append, List.map_append, List.append_assoc]
            congr 1
            have e1 : (l[i].f0 % 256).toNat = l[i].f0.toNat := by omega
            have e2 : ((l[i].f1.size : Int) / 256 % 256).toNat = l[i].f1.size / 256 := by omega
            have e3 : ((l[i].f1.size : Int) % 256).toNat = l[i].f1.size % 256 := by omega
            have e4 : (bytesOf l[i].f1).map (fun n => UInt8.ofNat n.toNat) = l[i].f1.toList := by
              rw [Lib.toList_data]
              simp [bytesOf, Function.comp_def]
            simp only [List.map_cons, List.map_nil, e1, e2, e3, e4, fieldB]
            rfl
          rw [e]
          simp only [packB, List.append_assoc]
theorem pack_is (l : List S46) (hs : (packB (fl l)).length < 140737488355328) (k : Nat) (hk : l.length + 1 < k) : tlv_Pack.f k l = some (packVal (fl l)) := by
  have hl : l.length ≤ 9223372036854775806 := by
    have : l.length ≤ (packB (fl l)).length := by
      have := pack_length (fl l)
      have e : (fl l).length = l.length := by simp [fl]
      omega
    omega
  have h := pack_loop l hl l.length k 0 0 [] (by omega) hk (by rw [List.drop_zero]; simpa using hs)
  rw [List.drop_zero] at h
  exact h
end Go.Proofs.Ytbnnmbajfmodjaa.TlvFns
end

section
/- Fields as bytes: what the printed function Pack of the reference comes to. -/
namespace Go.Proofs.Ytbnnmbajfmodjaa.TlvFns
open Go.RowKit Go.Proofs.Ytbnnmbajfmodjaa.FA Go.Proofs.YtbnnmbajfmodjaaW.PrintWords Go.Proofs.YtbnnmbajfmodjaaW.PrintLast Go.Proofs.YtbnnmbajfmodjaaW.PrintMore Go.Proofs.Ytbnnmbajfmodjaa.B
set_option linter.unusedVariables false
set_option linter.unusedSimpArgs false

theorem ref_pack_loop (l : List S78) (hl : l.length ≤ 9223372036854775806) (d : Nat) : ∀ (k i : Nat) (b : Int) (x : ByteArray), i + d = l.length → 3 * d < k → x.size + (packB (fr (l.drop i))).length ≤ 9223372036854775807 →
    (i = 0 ∧ b = 0 ∨ 0 < i ∧ ∃ h : i - 1 < l.length, b = l[i - 1].f0) →
    sextonref01_Pack.l0 k l x l (l.length : Int) (i : Int) = some (if packE b (fr (l.drop i)) = 0 then (⟨(x.toList ++ packB (fr (l.drop i))).toArray⟩, 0) else (⟨#[]⟩, packE b (fr (l.drop i)))) := by
  induction d with
  | zero =>
    intro k i b x hi hk hs hb
    obtain ⟨k, rfl⟩ : ∃ m, k = m + 1 := ⟨k - 1, by omega⟩
    simp only [sextonref01_Pack.l0]
    rw [if_neg (by omega), List.drop_of_length_le (by omega), if_pos (show packE b (fr []) = 0 from rfl)]
    refine congrArg some (Prod.ext ?_ rfl)
    refine ext_list ?_
    show x.toList = (⟨(x.toList ++ packB (fr [])).toArray⟩ : ByteArray).toList
    rw [mk_toList (x.toList ++ packB (fr [])), show packB (fr []) = [] from rfl, List.append_nil]
  | succ d ih =>
    intro k i b x hi hk hs hb
    obtain ⟨k, rfl⟩ : ∃ m, k = m + 3 := ⟨k - 3, by omega⟩
    have h : i < l.length := by omega
    have hd : fr (l.drop i) = (l[i].f0, l[i].f1) :: fr (l.drop (i + 1)) := by rw [List.drop_eq_getElem_cons h]; rfl
    rw [hd] at hs ⊢
    have hL : (packB ((l[i].f0, l[i].f1) :: fr (l.drop (i + 1)))).length = l[i].f1.size + 3 + (packB (fr (l.drop (i + 1)))).length := by
      simp only [packB, List.length_append, fieldB_length]
    rw [hL] at hs
    simp only [packE]
    simp only [sextonref01_Pack.l0]
    rw [if_pos (by omega), if_pos (by omega), if_pos (by omega), rd_get' h]
    have body : ∀ q : Bool, (q = true ↔ l[i].f0 < b) → 1 ≤ l[i].f0 → l[i].f0 ≤ 255 → l[i].f1.size ≤ 65535 →
        sextonref01_Pack.j2 (k + 1) l x l (l.length : Int) (i : Int) q l[i].f0 l[i].f1 =
        some (if (if l[i].f0 < b then 11 else packE l[i].f0 (fr (l.drop (i + 1)))) = 0 then (⟨(x.toList ++ packB ((l[i].f0, l[i].f1) :: fr (l.drop (i + 1)))).toArray⟩, 0) else (⟨#[]⟩, if l[i].f0 < b then 11 else packE l[i].f0 (fr (l.drop (i + 1))))) := by
      intro q hq h1 h2 h3
      simp only [sextonref01_Pack.j2]
      by_cases hb2 : l[i].f0 < b
      · rw [if_pos (hq.2 hb2), if_pos hb2, if_neg (by decide)]
      · rw [if_neg (fun hx => hb2 (hq.1 hx)), if_neg hb2, byte_is _ (by omega) (by omega)]
        simp only [Option.bind_some]
        have s1 : (⟨#[UInt8.ofNat l[i].f0.toNat]⟩ : ByteArray).size = 1 := rfl
        have s2 : (⟨#[UInt8.ofNat ((l[i].f1.size : Int) / 256).toNat]⟩ : ByteArray).size = 1 := rfl
        have s3 : (⟨#[UInt8.ofNat ((l[i].f1.size : Int) % 256).toNat]⟩ : ByteArray).size = 1 := rfl
        rw [if_pos (by rw [s1]; omega), wrap64_in (by omega) (by omega), byte_is ((l[i].f1.size : Int) / 256) (by omega) (by omega)]
        simp only [Option.bind_some]
        rw [if_pos (by rw [ByteArray.size_append, s1, s2]; omega), byte_is ((l[i].f1.size : Int) % 256) (by omega) (by omega)]
        simp only [Option.bind_some]
        rw [if_pos (by rw [ByteArray.size_append, ByteArray.size_append, s1, s2, s3]; omega), if_pos (by rw [ByteArray.size_append, ByteArray.size_append, ByteArray.size_append, s1, s2, s3]; omega), wrap64_in (by omega) (by omega)]
        have hx := ih k (i + 1) (l[i].f0) (x ++ ⟨#[UInt8.ofNat l[i].f0.toNat]⟩ ++ ⟨#[UInt8.ofNat ((l[i].f1.size : Int) / 256).toNat]⟩ ++ ⟨#[UInt8.ofNat ((l[i].f1.size : Int) % 256).toNat]⟩ ++ l[i].f1) (by omega) (by omega)
          (by simp only [ByteArray.size_append, s1, s2, s3]; omega) (.inr ⟨by omega, by rw [Nat.add_sub_cancel]; exact h, by simp only [Nat.add_sub_cancel]⟩)
        refine Eq.trans hx ?_
        have e : (x ++ ⟨#[UInt8.ofNat l[i].f0.toNat]⟩ ++ ⟨#[UInt8.ofNat ((l[i].f1.size : Int) / 256).toNat]⟩ ++ ⟨#[UInt8.ofNat ((l[i].f1.size : Int) % 256).toNat]⟩ ++ l[i].f1).toList = x.toList ++ fieldB l[i].f0 l[i].f1 := by
          rw [app_list, app_list, app_list, app_list]
          have e1 : (⟨#[UInt8.ofNat l[i].f0.toNat]⟩ : ByteArray).toList = [UInt8.ofNat l[i].f0.toNat] := by rw [Lib.toList_data]
          have e2 : (⟨#[UInt8.ofNat ((l[i].f1.size : Int) / 256).toNat]⟩ : ByteArray).toList = [UInt8.ofNat (l[i].f1.size / 256)] := by
            rw [Lib.toList_data]
            have : ((l[i].f1.size : Int) / 256).toNat = l[i].f1.size / 256 := by omega
            rw [this]
          have e3 : (⟨#[UInt8.ofNat ((l[i].f1.size : Int) % 256).toNat]⟩ : ByteArray).toList = [UInt8.ofNat (l[i].f1.size % 256)] := by
            rw [Lib.toList_data]
            have : ((l[i].f1.size : Int) % 256).toNat = l[i].f1.size % 256 := by omega
            rw [this]
          rw [e1, e2, e3]
          simp [fieldB]
        rw [e]
        simp only [packB, List.append_assoc]
    have j1 : ∀ q : Bool, (q = true ↔ l[i].f0 < 1 ∨ 255 < l[i].f0) →
        sextonref01_Pack.j1 (k + 2) l x (i : Int) l (l.length : Int) (i : Int) q l[i].f0 l[i].f1 =
        some (if (if l[i].f0 < 1 ∨ 255 < l[i].f0 then 1 else if 65535 < l[i].f1.size then 2 else if l[i].f0 < b then 11 else packE l[i].f0 (fr (l.drop (i + 1)))) = 0 then (⟨(x.toList ++ packB ((l[i].f0, l[i].f1) :: fr (l.drop (i + 1)))).toArray⟩, 0) else (⟨#[]⟩, if l[i].f0 < 1 ∨ 255 < l[i].f0 then 1 else if 65535 < l[i].f1.size then 2 else if l[i].f0 < b then 11 else packE l[i].f0 (fr (l.drop (i + 1))))) := by
      intro q hq
      simp only [sextonref01_Pack.j1]
      by_cases h1 : l[i].f0 < 1 ∨ 255 < l[i].f0
      · rw [if_pos (hq.2 h1), if_pos h1, if_neg (by decide)]
      · rw [if_neg (fun hx => h1 (hq.1 hx)), if_neg h1]
        by_cases h2 : 65535 < l[i].f1.size
        · rw [if_pos (show (l[i].f1.size : Int) > 65535 by omega), if_pos h2, if_neg (by decide)]
        · rw [if_neg (show ¬ (l[i].f1.size : Int) > 65535 by omega), if_neg h2]
          rcases hb with ⟨rfl, rfl⟩ | ⟨hi0, hi1, rfl⟩
          · rw [if_neg (show ¬ ((0 : Nat) : Int) > 0 by decide)]
            exact body false ⟨(fun hx => by cases hx), (fun hx => by omega)⟩ (by omega) (by omega) (by omega)
          · have hw : wrap64 ((i : Int) - 1) = ((i - 1 : Nat) : Int) := by rw [wrap64_in (by omega) (by omega)]; omega
            rw [if_pos (show (i : Int) > 0 by omega), hw, if_pos (by omega), if_pos (by omega), rd_get' hi1]
            exact body _ (by simp) (by omega) (by omega) (by omega)
    by_cases h1 : l[i].f0 < 1
    · rw [if_pos h1]
      exact j1 true ⟨fun _ => .inl h1, fun _ => rfl⟩
    · rw [if_neg h1]
      exact j1 _ (by simp [h1])
theorem ref_pack_is (l : List S78) (hs : (packB (fr l)).length ≤ 9223372036854775806) (k : Nat) (hk : 3 * l.length < k) : sextonref01_Pack.f k l = some (packVal (fr l)) := by
  have hl : l.length ≤ 9223372036854775806 := by
    have := pack_length (fr l)
    have e : (fr l).length = l.length := by simp [fr]
    omega
  have h := ref_pack_loop l hl l.length k 0 0 ⟨#[]⟩ (by omega) hk (by rw [List.drop_zero]; show 0 + _ ≤ _; omega) (.inl ⟨rfl, rfl⟩)
  rw [List.drop_zero, Lib.toList_data] at h
  exact h
end Go.Proofs.Ytbnnmbajfmodjaa.TlvFns
end

section
/- The fields that bytes are: what the printed function Unpack of the program comes to. -/
namespace Go.Proofs.Ytbnnmbajfmodjaa.TlvFns
open Go.RowKit Go.Proofs.Ytbnnmbajfmodjaa.FA Go.Proofs.YtbnnmbajfmodjaaW.PrintWords Go.Proofs.YtbnnmbajfmodjaaW.PrintLast Go.Proofs.YtbnnmbajfmodjaaW.PrintMore Go.Proofs.Ytbnnmbajfmodjaa.B
set_option linter.unusedVariables false
set_option linter.unusedSimpArgs false

def toF (p : Int × ByteArray) : S46 := ⟨p.1, p.2⟩
theorem bt_of {s : ByteArray} {l : List UInt8} (h : s.toList = l) (i : Nat) (hi : i < l.length) : bt s (i : Int) = ((l[i]).toNat : Int) := by
  subst h
  exact bt_get s i hi
theorem w_byte (a : UInt8) : wrap64 (a.toNat : Int) = (a.toNat : Int) := wrap64_in (by omega) (by have := a.toNat_lt; omega)
theorem w_or (c e : UInt8) : Go.bits .or .i64 (wrap64 ((c.toNat : Int) * 256)) (e.toNat : Int) = 256 * (c.toNat : Int) + (e.toNat : Int) := by
  have hc := c.toNat_lt
  have he := e.toNat_lt
  rw [wrap64_in (n := (c.toNat : Int) * 256) (by omega) (by omega)]
  exact i64_or8 (by omega) (by omega) (by omega) (by omega)
theorem w_two (c e : UInt8) : wrap64 (3 + (256 * (c.toNat : Int) + (e.toNat : Int))) = ((3 + (256 * c.toNat + e.toNat) : Nat) : Int) := by
  have hc := c.toNat_lt
  have he := e.toNat_lt
  rw [wrap64_in (n := 3 + (256 * (c.toNat : Int) + (e.toNat : Int))) (by omega) (by omega)]
  omega
theorem unpack_loop (n : Nat) : ∀ (k : Nat) (s : ByteArray) (x : List S46) (b : Int), s.toList.length ≤ n → n < k → s.size ≤ 9223372036854770000 → x.length + s.size < 5864062014805 →
    tlv_Unpack.l0 k s x 0 b = some (if unpackE (s.toList.length + 1) b s.toList = 0 then (x ++ (unpackL (s.toList.length + 1) s.toList).map toF, 0) else ([], unpackE (s.toList.length + 1) b s.toList)) := by
  induction n with
  | zero =>
    intro k s x b hn hk hs hx
    obtain ⟨k, rfl⟩ : ∃ m, k = m + 1 := ⟨k - 1, by omega⟩
    have h0 : s.toList = [] := List.length_eq_zero_iff.1 (by omega)
    simp only [tlv_Unpack.l0]
    rw [if_pos h0, if_pos trivial, h0, if_pos (show unpackE (([] : List UInt8).length + 1) b [] = 0 from rfl)]
    simp [unpackL]
  | succ n ih =>
    intro k s x b hn hk hs hx
    obtain ⟨k, rfl⟩ : ∃ m, k = m + 1 := ⟨k - 1, by omega⟩
    have hz := len_eq s
    have short : ∀ l, s.toList = l → l ≠ [] → l.length < 3 → tlv_Unpack.l0 (k + 1) s x 0 b = some (if unpackE (l.length + 1) b l = 0 then (x ++ (unpackL (l.length + 1) l).map toF, 0) else ([], unpackE (l.length + 1) b l)) := by
      intro l hl h1 h2
      have e : unpackE (l.length + 1) b l = 10 := by
        match l, h1, h2 with
        | [_], _, _ => rfl
        | [_, _], _, _ => rfl
        | [], h, _ => exact absurd rfl h
      simp only [tlv_Unpack.l0]
      rw [if_neg (by rw [hl]; exact h1), if_pos (by rw [hl] at hz; omega), if_neg (by decide), e, if_neg (by decide)]
    match hl : s.toList with
    | [] =>
      simp only [tlv_Unpack.l0]
      rw [if_pos hl, if_pos trivial, if_pos (show unpackE (([] : List UInt8).length + 1) b [] = 0 from rfl)]
      simp [unpackL]
    | [a] => exact short _ hl (by simp) (by simp)
    | [a, c] => exact short _ hl (by simp) (by simp)
    | a :: c :: e :: r =>
      have ha := a.toNat_lt
      have hc := c.toNat_lt
      have he := e.toNat_lt
      have b0 : bt s 0 = (a.toNat : Int) := bt_of hl 0 (by simp)
      have b1 : bt s 1 = (c.toNat : Int) := bt_of hl 1 (by simp)
      have b2 : bt s 2 = (e.toNat : Int) := bt_of hl 2 (by simp)
      have hsz : s.size = r.length + 3 := by rw [← hz, hl]; simp
      simp only [tlv_Unpack.l0, b0, b1, b2, w_byte, w_or, w_two c e, List.length_cons, Int.toNat_natCast]
      clear b0 b1 b2
      have hE : unpackE (r.length + 1 + 1 + 1 + 1) b (a :: c :: e :: r) = if a.toNat = 0 then 4 else if (a.toNat : Int) < b then 11 else if r.length < 256 * c.toNat + e.toNat then 10 else unpackE (r.length + 3) a.toNat (r.drop (256 * c.toNat + e.toNat)) := rfl
      have hL : unpackL (r.length + 1 + 1 + 1 + 1) (a :: c :: e :: r) = ((a.toNat : Int), ⟨(r.take (256 * c.toNat + e.toNat)).toArray⟩) :: unpackL (r.length + 3) (r.drop (256 * c.toNat + e.toNat)) := rfl
      rw [hE, hL, if_neg (by rw [hl]; simp), if_neg (by omega), if_pos (by omega), if_pos (by omega), if_pos (by omega)]
      by_cases h1 : a.toNat = 0
      · rw [if_pos (show (a.toNat : Int) = 0 by omega), if_neg (by decide), if_pos h1, if_neg (by decide)]
      · rw [if_neg (show ¬ (a.toNat : Int) = 0 by omega), if_neg h1]
        by_cases h2 : (a.toNat : Int) < b
        · rw [if_pos h2, if_neg (by decide), if_pos h2, if_neg (by decide)]
        · rw [if_neg h2, if_neg h2]
          by_cases h3 : r.length < 256 * c.toNat + e.toNat
          · rw [if_pos (show (s.size : Int) < ((3 + (256 * c.toNat + e.toNat) : Nat) : Int) by omega), if_neg (by decide), if_pos h3, if_neg (by decide)]
          · rw [if_neg (show ¬ (s.size : Int) < ((3 + (256 * c.toNat + e.toNat) : Nat) : Int) by omega), if_neg h3, if_pos (by omega), if_pos (by omega), if_pos (by omega), if_pos (by omega)]
            have x1 : (s.extract (3 + (256 * c.toNat + e.toNat)) s.size).toList = r.drop (256 * c.toNat + e.toNat) := by
              rw [Lib.extract_toList, ← Lib.toList_data, hl]
              have : (a :: c :: e :: r).drop (3 + (256 * c.toNat + e.toNat)) = r.drop (256 * c.toNat + e.toNat) := by
                rw [← List.drop_drop]
                rfl
              rw [this]
              exact List.take_of_length_le (by rw [List.length_drop]; omega)
            have x2 : s.extract 3 (3 + (256 * c.toNat + e.toNat)) = ⟨(r.take (256 * c.toNat + e.toNat)).toArray⟩ := by
              apply ext_list
              rw [mk_toList (r.take (256 * c.toNat + e.toNat)), Lib.extract_toList, ← Lib.toList_data, hl]
              rw [show 3 + (256 * c.toNat + e.toNat) - 3 = 256 * c.toNat + e.toNat by omega]
              rfl
            have hz2 := len_eq (s.extract (3 + (256 * c.toNat + e.toNat)) s.size)
            rw [x1, List.length_drop] at hz2
            have hi := ih k (s.extract (3 + (256 * c.toNat + e.toNat)) s.size) (x ++ [⟨(a.toNat : Int), s.extract 3 (3 + (256 * c.toNat + e.toNat))⟩]) a.toNat
              (by rw [x1, List.length_drop]; rw [hl] at hn; simp only [List.length_cons] at hn; omega) (by omega) (by omega) (by rw [List.length_append, List.length_singleton]; omega)
            refine Eq.trans hi ?_
            obtain ⟨m1, m2⟩ := unpackE_more ((r.drop (256 * c.toNat + e.toNat)).length + 1) a.toNat (r.drop (256 * c.toNat + e.toNat)) (r.length + 3) (by omega) (by rw [List.length_drop]; omega)
            rw [x1, m1, m2, x2, List.append_assoc]
            rfl
theorem unpack_is (s : ByteArray) (hs : s.size < 5864062014805) (k : Nat) (hk : s.size < k) : tlv_Unpack.f k s = some ((unpackVal s.toList).1.map toF, (unpackVal s.toList).2) := by
  have h := unpack_loop s.size k s [] 0 (by rw [len_eq]; omega) hk (by omega) (by simpa using hs)
  refine Eq.trans h ?_
  unfold unpackVal
  split <;> rfl
end Go.Proofs.Ytbnnmbajfmodjaa.TlvFns
end

section
/- The fields that bytes are: what the printed function Unpack of the reference comes to. -/
namespace Go.Proofs.Ytbnnmbajfmodjaa.TlvFns
open Go.RowKit Go.Proofs.Ytbnnmbajfmodjaa.FA Go.Proofs.YtbnnmbajfmodjaaW.PrintWords Go.Proofs.YtbnnmbajfmodjaaW.PrintLast Go.Proofs.YtbnnmbajfmodjaaW.PrintMore Go.Proofs.Ytbnnmbajfmodjaa.B
set_option linter.unusedVariables false
set_option linter.unusedSimpArgs false

def toR (p : Int × ByteArray) : S78 := ⟨p.1, p.2⟩
/-- No tag falls behind none, nor behind 1. -/
theorem unpackE_one (k : Nat) (s : List UInt8) : unpackE k 1 s = unpackE k 0 s := by
  match k, s with
  | 0, _ => rfl
  | _ + 1, [] => rfl
  | _ + 1, [_] => rfl
  | _ + 1, [_, _] => rfl
  | k + 1, a :: c :: e :: r =>
    simp only [unpackE]
    by_cases h : a.toNat = 0
    · rw [if_pos h, if_pos h]
    · rw [if_neg h, if_neg h, if_neg (show ¬ (a.toNat : Int) < 1 by omega), if_neg (show ¬ (a.toNat : Int) < 0 by omega)]
theorem w_i {n i : Nat} (hn : n < 5864062014805) (hi : i ≤ n) (j : Int) (hj : 0 ≤ j ∧ j ≤ 3) : wrap64 ((i : Int) + j) = (i : Int) + j := wrap64_in (by omega) (by omega)
theorem w_mul (c : UInt8) : wrap64 (256 * (c.toNat : Int)) = 256 * (c.toNat : Int) := wrap64_in (by omega) (by have := c.toNat_lt; omega)
theorem w_sum (c e : UInt8) : wrap64 (256 * (c.toNat : Int) + (e.toNat : Int)) = 256 * (c.toNat : Int) + (e.toNat : Int) := by
  have hc := c.toNat_lt
  have he := e.toNat_lt
  exact wrap64_in (by omega) (by omega)
theorem w_sub {n i : Nat} (hn : n < 5864062014805) (hi : i ≤ n) : wrap64 ((n : Int) - i - 3) = (n : Int) - i - 3 := wrap64_in (by omega) (by omega)
theorem w_at {n i : Nat} (hn : n < 5864062014805) (hi : i ≤ n) (c e : UInt8) : wrap64 ((i : Int) + 3 + (256 * (c.toNat : Int) + (e.toNat : Int))) = ((i + 3 + (256 * c.toNat + e.toNat) : Nat) : Int) := by
  have hc := c.toNat_lt
  have he := e.toNat_lt
  rw [wrap64_in (n := (i : Int) + 3 + (256 * (c.toNat : Int) + (e.toNat : Int))) (by omega) (by omega)]
  omega
theorem w_nat (i : Nat) : ((i : Int) + 3).toNat = i + 3 := by omega
theorem ref_unpack_loop (s : ByteArray) (hs : s.size < 5864062014805) (n : Nat) : ∀ (k i : Nat) (x : List S78) (b : Int), i ≤ s.size → s.size - i ≤ n → n < k → x.length ≤ i →
    sextonref01_Unpack.l0 k s x b (i : Int) = some (if unpackE (s.size - i + 1) b (s.toList.drop i) = 0 then (x ++ (unpackL (s.size - i + 1) (s.toList.drop i)).map toR, 0) else ([], unpackE (s.size - i + 1) b (s.toList.drop i))) := by
  induction n with
  | zero =>
    intro k i x b hi hn hk hx
    obtain ⟨k, rfl⟩ : ∃ m, k = m + 1 := ⟨k - 1, by omega⟩
    simp only [sextonref01_Unpack.l0]
    rw [if_neg (by omega), List.drop_of_length_le (by rw [len_eq]; omega), show s.size - i + 1 = 0 + 1 by omega, if_pos (show unpackE (0 + 1) b [] = 0 from rfl)]
    simp [unpackL]
  | succ n ih =>
    intro k i x b hi hn hk hx
    obtain ⟨k, rfl⟩ : ∃ m, k = m + 1 := ⟨k - 1, by omega⟩
    have hz := len_eq s
    simp only [sextonref01_Unpack.l0]
    by_cases hlt : i < s.size
    · rw [if_pos (by omega), wrap64_in (n := (s.size : Int) - i) (by omega) (by omega)]
      by_cases h3 : s.size - i < 3
      · rw [if_pos (by omega)]
        have e : unpackE (s.size - i + 1) b (s.toList.drop i) = 10 := by
          have hl : (s.toList.drop i).length = s.size - i := by rw [List.length_drop, hz]
          match hd : s.toList.drop i with
          | [] => rw [hd] at hl; simp at hl; omega
          | [_] => rw [show s.size - i + 1 = (s.size - i) + 1 from rfl]; rfl
          | [_, _] => rfl
          | _ :: _ :: _ :: _ => rw [hd] at hl; simp at hl; omega
        rw [e, if_neg (by decide)]
      · rw [if_neg (by omega)]
        have l0 : i < s.toList.length := by omega
        have l1 : i + 1 < s.toList.length := by omega
        have l2 : i + 2 < s.toList.length := by omega
        obtain ⟨a, ha⟩ : ∃ a, s.toList[i] = a := ⟨_, rfl⟩
        obtain ⟨c, hc⟩ : ∃ c, s.toList[i + 1] = c := ⟨_, rfl⟩
        obtain ⟨e, he⟩ : ∃ e, s.toList[i + 2] = e := ⟨_, rfl⟩
        have b0 : bt s (i : Int) = (a.toNat : Int) := by rw [bt_get s i l0, ha]
        have b1 : bt s ((i : Int) + 1) = (c.toNat : Int) := by rw [show (i : Int) + 1 = ((i + 1 : Nat) : Int) by omega, bt_get s (i + 1) l1, hc]
        have b2 : bt s ((i : Int) + 2) = (e.toNat : Int) := by rw [show (i : Int) + 2 = ((i + 2 : Nat) : Int) by omega, bt_get s (i + 2) l2, he]
        have hd : s.toList.drop i = a :: c :: e :: s.toList.drop (i + 3) := by
          rw [List.drop_eq_getElem_cons l0, List.drop_eq_getElem_cons l1, List.drop_eq_getElem_cons l2, ha, hc, he]
        have hat := a.toNat_lt
        have hct := c.toNat_lt
        have het := e.toNat_lt
        rw [w_i hs hi 1 (by decide), w_i hs hi 2 (by decide), w_i hs hi 3 (by decide), b0, b1, b2, w_byte, w_byte, w_byte, w_mul, w_sum, w_sub hs hi, w_at hs hi, w_nat, Int.toNat_natCast]
        clear b0 b1 b2
        have hE : unpackE (s.size - i + 1) b (s.toList.drop i) = if a.toNat = 0 then 4 else if (a.toNat : Int) < b then 11 else if (s.toList.drop (i + 3)).length < 256 * c.toNat + e.toNat then 10 else unpackE (s.size - i) a.toNat ((s.toList.drop (i + 3)).drop (256 * c.toNat + e.toNat)) := by rw [hd]; rfl
        have hL : unpackL (s.size - i + 1) (s.toList.drop i) = ((a.toNat : Int), ⟨((s.toList.drop (i + 3)).take (256 * c.toNat + e.toNat)).toArray⟩) :: unpackL (s.size - i) ((s.toList.drop (i + 3)).drop (256 * c.toNat + e.toNat)) := by rw [hd]; rfl
        rw [hE, hL, List.length_drop, hz, List.drop_drop, if_pos (by omega)]
        by_cases h1 : a.toNat = 0
        · rw [if_pos (show (a.toNat : Int) = 0 by omega), if_pos h1, if_neg (by decide)]
        · rw [if_neg (show ¬ (a.toNat : Int) = 0 by omega), if_neg h1]
          by_cases h2 : (a.toNat : Int) < b
          · rw [if_pos h2, if_pos h2, if_neg (by decide)]
          · rw [if_neg h2, if_neg h2, if_pos (by omega), if_pos (by omega), if_pos (by omega), if_pos (by omega)]
            by_cases h4 : s.size - (i + 3) < 256 * c.toNat + e.toNat
            · rw [if_pos (by omega), if_pos h4, if_neg (by decide)]
            · rw [if_neg (by omega), if_neg h4, if_pos (by omega), if_pos (by omega), if_pos (by omega), if_pos (by omega)]
              have x2 : s.extract (i + 3) (i + 3 + (256 * c.toNat + e.toNat)) = ⟨((s.toList.drop (i + 3)).take (256 * c.toNat + e.toNat)).toArray⟩ := by
                apply ext_list
                rw [mk_toList ((s.toList.drop (i + 3)).take (256 * c.toNat + e.toNat)), Lib.extract_toList, ← Lib.toList_data]
                rw [show i + 3 + (256 * c.toNat + e.toNat) - (i + 3) = 256 * c.toNat + e.toNat by omega]
              have hi2 := ih k (i + 3 + (256 * c.toNat + e.toNat)) (x ++ [⟨(a.toNat : Int), s.extract (i + 3) (i + 3 + (256 * c.toNat + e.toNat))⟩]) a.toNat (by omega) (by omega) (by omega) (by rw [List.length_append, List.length_singleton]; omega)
              refine Eq.trans hi2 ?_
              obtain ⟨m1, m2⟩ := unpackE_more (s.size - (i + 3 + (256 * c.toNat + e.toNat)) + 1) a.toNat (s.toList.drop (i + 3 + (256 * c.toNat + e.toNat))) (s.size - i) (by rw [List.length_drop]; omega) (by omega)
              rw [m1, m2, x2, List.append_assoc]
              rfl
    · rw [if_neg (by omega), List.drop_of_length_le (by rw [len_eq]; omega), show s.size - i + 1 = 0 + 1 by omega, if_pos (show unpackE (0 + 1) b [] = 0 from rfl)]
      simp [unpackL]
theorem ref_unpack_is (s : ByteArray) (hs : s.size < 5864062014805) (k : Nat) (hk : s.size < k) : sextonref01_Unpack.f k s = some ((unpackVal s.toList).1.map toR, (unpackVal s.toList).2) := by
  have h := ref_unpack_loop s hs s.size k 0 [] 1 (by omega) (by omega) hk (by simp)
  refine Eq.trans h ?_
  rw [List.drop_zero, Nat.sub_zero, unpackE_one]
  unfold unpackVal
  rw [len_eq]
  split <;> rfl
end Go.Proofs.Ytbnnmbajfmodjaa.TlvFns
end

section
/- Calls as bytes, and back, in plain Lean, with no program in sight: parts that are tagged by their places. -/
namespace Go.Proofs.Ytbnnmbajfmodjaa.TlvFns
open Go.RowKit Go.Proofs.YtbnnmbajfmodjaaW.PrintWords Go.Proofs.Ytbnnmbajfmodjaa.B
set_option linter.unusedVariables false
set_option linter.unusedSimpArgs false
/-- The parts that are not empty, tagged from a number on. -/
def tagP : Int → List ByteArray → List (Int × ByteArray)
  | _, [] => []
  | t, s :: l => if s.toList = [] then tagP (t + 1) l else (t, s) :: tagP (t + 1) l
def pieces : Int → List ByteArray → List UInt8
  | _, [] => []
  | t, s :: l => (if s.toList = [] then [] else fieldB t s) ++ pieces (t + 1) l
/-- The value of a tag; the last one, if there are several. -/
def lastV (l : List (Int × ByteArray)) (t : Int) : ByteArray := l.foldl (fun acc p => if p.1 = t then p.2 else acc) ⟨#[]⟩
def pickP (acc s : ByteArray) : ByteArray := if s.toList = [] then acc else s
theorem empty_eq {s : ByteArray} (h : s.toList = []) : s = ⟨#[]⟩ := ext_list (h.trans (mk_toList []).symm)
/-- A number's bytes; none of 0. -/
def numB (n size : Int) : ByteArray := if n = 0 then ⟨#[]⟩ else (numVal n size).1
def handB (a b : Int) : ByteArray := if a = 0 ∧ b = 0 then ⟨#[]⟩ else (numVal a 1).1 ++ (numVal b 6).1
theorem numVal_size (n size : Int) : (numVal n size).1.size ≤ 8 := by
  unfold numVal
  split
  · decide
  · rw [mk_size (be size.toNat n), be_length]; omega
theorem handB_size (a b : Int) : (handB a b).size ≤ 16 := by
  unfold handB
  have h1 := numVal_size a 1
  have h2 := numVal_size b 6
  split
  · decide
  · rw [ByteArray.size_append]; omega
def namedP (s : ByteArray) : Int × Int := if s.size = 7 then ((numberOf (s.extract 0 1)).1, (numberOf (s.extract 1 s.size)).1) else (0, 0)
theorem numberOf_be (n : Int) (s : Nat) (h0 : 1 ≤ s) (h8 : s ≤ 8) (hn : 0 ≤ n) (hb : n < 256 ^ s) (hm : n < 9223372036854775808) : numberOf ⟨(be s n).toArray⟩ = (n, 0) := by
  have hz : (⟨(be s n).toArray⟩ : ByteArray).size = s := by rw [mk_size (be s n), be_length]
  unfold numberOf
  rw [hz, if_neg (by omega), mk_toList (be s n), bval_be _ n hn hb, if_neg (by omega)]
theorem numVal_ok (n : Int) (s : Nat) (h0 : 1 ≤ s) (h8 : s ≤ 8) (hn : 0 ≤ n) (hb : n < 256 ^ s) : numVal n (s : Int) = (⟨(be s n).toArray⟩, 0) := by
  unfold numVal
  rw [if_neg (by rw [Int.toNat_natCast]; omega), Int.toNat_natCast]
theorem unpackVal_pack (l : List (Int × ByteArray)) (h : packE 0 l = 0) : unpackVal (packB l) = (l, 0) := by
  have hl := pack_length l
  obtain ⟨h1, h2⟩ := unpack_packs l 0 ((packB l).length + 1) h (by omega)
  unfold unpackVal
  rw [if_pos h1, h2]
/-- A call. -/
structure Cl where
  kd : Int
  hn : Int
  hg : Int
  gn : Int
  gg : Int
  nm : ByteArray
  nn : ByteArray
  at_ : Int
  n : Int
  dt : ByteArray
def zeroCl : Cl := ⟨0, 0, 0, 0, 0, ⟨#[]⟩, ⟨#[]⟩, 0, 0, ⟨#[]⟩⟩
def upP (n m : Int) : Bool := decide (0 ≤ n ∧ n ≤ m)
def rightCl (c : Cl) : Bool := decide (c.kd ≥ 1) && decide (c.kd ≤ 14) && upP c.at_ 4294967295 && upP c.n 65535 && decide ((c.dt.size : Int) ≤ 1024) && upP c.hn 255 && upP c.hg 1099511627776 && upP c.gn 255 && upP c.gg 1099511627776 && decide ((c.nm.size : Int) ≤ 255) && decide ((c.nn.size : Int) ≤ 255)
def partsCl (c : Cl) : List ByteArray := [numB c.kd 1, handB c.hn c.hg, handB c.gn c.gg, c.nm, c.nn, numB c.at_ 4, numB c.n 2, c.dt]
def packCl (c : Cl) : ByteArray × Int := if rightCl c = true then (⟨(pieces 1 (partsCl c)).toArray⟩, 0) else (⟨#[]⟩, 413)
def clOf (l : List (Int × ByteArray)) : Cl := ⟨(numberOf (lastV l 1)).1, (namedP (lastV l 2)).1, (namedP (lastV l 2)).2, (namedP (lastV l 3)).1, (namedP (lastV l 3)).2, lastV l 4, lastV l 5, (numberOf (lastV l 6)).1, (numberOf (lastV l 7)).1, lastV l 8⟩
def unpackCl (s : ByteArray) : Cl × Int := if (unpackVal s.toList).2 = 0 then (if (packCl (clOf (unpackVal s.toList).1)).2 = 0 ∧ (packCl (clOf (unpackVal s.toList).1)).1.toList = s.toList then (clOf (unpackVal s.toList).1, 0) else (zeroCl, 413)) else (zeroCl, 413)
end Go.Proofs.Ytbnnmbajfmodjaa.TlvFns
end
