/- The printed functions of poly and of its reference, as plain sums. -/
import Derived.Test.YthmeagbfoccnlaaDoorPoly
import Derived.Test.YthmeagbfoccnlaaDoorFApolySum
import Derived.Test.YthmeagbfoccnlaaDoorFApolytail
import Derived.Test.YthmeagbfoccnlaaDoorFApolyGuard
import Derived.Test.YthmeagbfoccnlaaDoorFApolyUnguard
import Derived.Test.YthmeagbfoccnlaaDoorFAsextonref02Sum
import Derived.Test.YthmeagbfoccnlaaDoorFAsextonref02Guard
import Derived.Test.YthmeagbfoccnlaaDoorFAsextonref02Unguard
namespace Go.Proofs.YthmeagbfoccnlaaDoor.FA
open Go.RowKit Go.Proofs.YthmeagbfoccnlaaDoorW.PrintWords Go.Proofs.YthmeagbfoccnlaaDoorW.PrintLast Go.Proofs.YthmeagbfoccnlaaDoorW.PrintMore Go.Proofs.YthmeagbfoccnlaaDoor.B
set_option linter.unusedVariables false
set_option linter.unusedSimpArgs false
theorem bits_xor_nat (k : IntKind) (j : Nat) (hj : j ≤ k.bits) (hk : ∀ n : Int, 0 ≤ n → n < 2 ^ j → k.wrap n = n) (a b : Nat) (ha : a < 2 ^ j) (hb : b < 2 ^ j) : Go.bits .xor k a b = ((a ^^^ b : Nat) : Int) := by
  have hp : 2 ^ j ≤ 2 ^ k.bits := Nat.pow_le_pow_right (by decide) hj
  have ha' : a % 2 ^ k.bits = a := Nat.mod_eq_of_lt (Nat.lt_of_lt_of_le ha hp)
  have hb' : b % 2 ^ k.bits = b := Nat.mod_eq_of_lt (Nat.lt_of_lt_of_le hb hp)
  have cast : ∀ n : Nat, n < 2 ^ j → ((n : Nat) : Int) < 2 ^ j := fun n h => by exact_mod_cast h
  simp only [Go.bits, BitVec.ofInt_natCast, BitVec.toNat_xor, BitVec.toNat_ofNat, ha', hb']
  exact hk _ (Int.natCast_nonneg _) (cast _ (Nat.xor_lt_two_pow ha hb))
theorem wraps_u32 (n : Int) (h0 : 0 ≤ n) (h1 : n < 2 ^ 32) : IntKind.u32.wrap n = n := by rw [IntKind.wrap_u32]; omega
theorem xor_u32 {a b : Nat} (ha : a < 2 ^ 32) (hb : b < 2 ^ 32) : Go.bits .xor .u32 (a : Int) (b : Int) = ((a ^^^ b : Nat) : Int) := bits_xor_nat .u32 32 (by decide) wraps_u32 a b ha hb
theorem xor_i64 {a b : Nat} (ha : a < 2 ^ 63) (hb : b < 2 ^ 63) : Go.bits .xor .i64 (a : Int) (b : Int) = ((a ^^^ b : Nat) : Int) := bits_xor_nat .i64 63 (by decide) wraps_i64 a b ha hb
theorem tab_is : ∀ m : Nat, m < 16 → tabL.getD m 0 = ((s4 m : Nat) : Int) := by decide
theorem mixI_is {r : Nat} (hr : r < 2 ^ 32) : mixI (r : Int) = ((s4 r : Nat) : Int) := by
  unfold mixI tabAt
  have hm : Go.bits .and .u32 (r : Int) 15 = ((r % 16 : Nat) : Int) := by
    have := bits_mask .u32 32 (by decide) wraps_u32 4 (by decide) (r : Int) (by omega) (by omega)
    rw [show (2 : Int) ^ 4 - 1 = 15 by decide, show (2 : Int) ^ 4 = 16 by decide] at this
    rw [this]
    omega
  rw [hm, Int.toNat_natCast, tab_is _ (Nat.mod_lt _ (by decide)), show (r : Int) / 16 = ((r / 16 : Nat) : Int) by omega, xor_u32 (by omega) (s4_lt (by omega)), ← s4_halves]
theorem rollI_is {r c : Nat} (hr : r < 2 ^ 32) (hc : c < 256) : rollI (r : Int) (c : Int) = ((bitN r c : Nat) : Int) := by
  unfold rollI bitN
  rw [show (c : Int) % 4294967296 = ((c : Nat) : Int) by omega, xor_u32 hr (by omega), mixI_is (Nat.xor_lt_two_pow hr (by omega)), mixI_is (s4_lt (Nat.xor_lt_two_pow hr (by omega)))]
theorem drop_at (s : ByteArray) (i : Nat) (h : i < s.size) : s.toList.drop i = s.toList[i]'(by rw [len_eq]; exact h) :: s.toList.drop (i + 1) := by
  rw [List.drop_eq_getElem_cons (by rw [len_eq]; exact h)]
theorem not_u32 {r : Nat} (hr : r < 2 ^ 32) : Go.bits .xor .u32 4294967295 (r : Int) = ((r ^^^ 4294967295 : Nat) : Int) := by
  rw [show (4294967295 : Int) = ((4294967295 : Nat) : Int) from rfl, xor_u32 (by decide) hr, Nat.xor_comm]
theorem not_i64 {r : Nat} (hr : r < 2 ^ 32) : Go.bits .xor .i64 (r : Int) 4294967295 = ((r ^^^ 4294967295 : Nat) : Int) := by
  rw [show (4294967295 : Int) = ((4294967295 : Nat) : Int) from rfl, xor_i64 (by omega) (by decide)]
theorem more_loop (s : ByteArray) (hs : s.size ≤ 9223372036854775806) (d : Nat) : ∀ (k i r : Nat), s.size - i = d → i ≤ s.size → d < k → r < 2 ^ 32 →
    poly_More.l0 k s (r : Int) (s.size : Int) (i : Int) = some (((rollsN r (s.toList.drop i) ^^^ 4294967295 : Nat) : Int), 0) := by
  induction d with
  | zero =>
    intro k i r hd hi hk hr
    obtain ⟨k, rfl⟩ : ∃ m, k = m + 1 := ⟨k - 1, by omega⟩
    have e : s.toList.drop i = [] := List.drop_of_length_le (by rw [len_eq]; omega)
    have hlt := Nat.xor_lt_two_pow hr (show 4294967295 < 2 ^ 32 by decide)
    simp only [poly_More.l0]
    rw [if_neg (by omega), e, not_u32 hr, wrap64_in (by omega) (by omega)]
    rfl
  | succ d ih =>
    intro k i r hd hi hk hr
    obtain ⟨k, rfl⟩ : ∃ m, k = m + 1 := ⟨k - 1, by omega⟩
    have hlt : i < s.toList.length := by rw [len_eq]; omega
    simp only [poly_More.l0]
    rw [if_pos (by omega), if_pos (by omega), if_pos (by omega), poly_roll.f, bt_get s i hlt, rollI_is hr (UInt8.toNat_lt _)]
    simp only [Option.bind_some]
    rw [wrap64_in (by omega) (by omega), show (i : Int) + 1 = ((i + 1 : Nat) : Int) by omega, ih k (i + 1) _ (by omega) (by omega) (by omega) (bitN_lt hr (UInt8.toNat_lt _)), drop_at s i (by omega)]
    rfl
def moreV (a : Int) (l : List UInt8) : Int × Int := if 0 ≤ a ∧ a < 4294967296 then (((rollsN (a.toNat ^^^ 4294967295) l ^^^ 4294967295 : Nat) : Int), 0) else (0, 1)
theorem more_is (a : Int) (s : ByteArray) (hs : s.size ≤ 9223372036854775806) (k : Nat) (hk : s.size < k) : poly_More.f k a s = some (moreV a s.toList) := by
  unfold poly_More.f moreV poly_sum32.f
  by_cases h0 : a ≥ 0
  · rw [if_pos h0]
    simp only [Option.bind_some]
    by_cases h1 : a < 4294967296
    · rw [if_pos (by simpa using h1), if_pos ⟨h0, h1⟩]
      obtain ⟨n, rfl⟩ := Int.eq_ofNat_of_zero_le h0
      have hn : n < 2 ^ 32 := by omega
      rw [show ((n : Int)) % 4294967296 = ((n : Nat) : Int) by omega, not_u32 hn]
      have := more_loop s hs s.size k 0 (n ^^^ 4294967295) (by omega) (by omega) hk (Nat.xor_lt_two_pow hn (by decide))
      rw [List.drop_zero] at this
      rw [Int.toNat_natCast]
      exact this
    · rw [if_neg (by simpa using h1), if_neg (by omega)]
  · rw [if_neg h0]
    simp only [Option.bind_some]
    rw [if_neg (by simp), if_neg (by omega)]
theorem sum_is (s : ByteArray) (hs : s.size ≤ 9223372036854775806) (k : Nat) (hk : s.size < k) : poly_Sum.f k s = some ((sumN s.toList : Nat) : Int) := by
  unfold poly_Sum.f
  rw [more_is 0 s hs k hk]
  simp only [Option.bind_some, moreV]
  rw [if_pos (by decide)]
  rfl
theorem bits_one (k r : Nat) (i : Int) (hr : r < 2 ^ 32) (h0 : 0 ≤ i) (hi : i < 8) : sextonref02_bits.l0 (k + 1) (r : Int) i = sextonref02_bits.l0 k ((stepN r : Nat) : Int) (i + 1) := by
  simp only [sextonref02_bits.l0]
  have e1 : Int.tmod (r : Int) 2 = ((r % 2 : Nat) : Int) := rfl
  have e2 : Int.tdiv (r : Int) 2 = ((r / 2 : Nat) : Int) := rfl
  rw [if_pos hi, e1, e2, wrap64_in (n := i + 1) (by omega) (by omega), wrap64_in (by omega) (by omega)]
  unfold stepN
  by_cases h : r % 2 = 1
  · rw [if_pos (by omega), if_pos h, show (3988292384 : Int) = ((3988292384 : Nat) : Int) from rfl, xor_i64 (by omega) (by decide)]
  · rw [if_neg (by omega), if_neg h, Nat.xor_zero]
theorem ref_bits_is {r c : Nat} (hr : r < 2 ^ 32) (hc : c < 256) (k : Nat) (hk : 9 ≤ k) : sextonref02_bits.f k (r : Int) (c : Int) = some ((bitN r c : Nat) : Int) := by
  obtain ⟨k, rfl⟩ : ∃ m, k = m + 9 := ⟨k - 9, by omega⟩
  unfold sextonref02_bits.f
  have h0 := Nat.xor_lt_two_pow hr (show c < 2 ^ 32 by omega)
  have h1 := stepN_lt h0
  have h2 := stepN_lt h1
  have h3 := stepN_lt h2
  have h4 := stepN_lt h3
  have h5 := stepN_lt h4
  have h6 := stepN_lt h5
  have h7 := stepN_lt h6
  rw [xor_i64 (by omega) (by omega), bits_one _ _ _ h0 (by decide) (by decide), bits_one _ _ _ h1 (by decide) (by decide), bits_one _ _ _ h2 (by decide) (by decide), bits_one _ _ _ h3 (by decide) (by decide), bits_one _ _ _ h4 (by decide) (by decide), bits_one _ _ _ h5 (by decide) (by decide), bits_one _ _ _ h6 (by decide) (by decide), bits_one _ _ _ h7 (by decide) (by decide)]
  simp only [sextonref02_bits.l0]
  rw [if_neg (by decide)]
  rfl
theorem w64_byte (b : UInt8) : wrap64 (b.toNat : Int) = (b.toNat : Int) := by
  have := b.toNat_lt
  exact wrap64_in (by omega) (by omega)
theorem ref_sum_loop (s : ByteArray) (hs : s.size ≤ 9223372036854775806) (d : Nat) : ∀ (k i r : Nat), s.size - i = d → i ≤ s.size → d + 9 < k → r < 2 ^ 32 →
    sextonref02_Sum.l0 k s (r : Int) (i : Int) = some ((rollsN r (s.toList.drop i) ^^^ 4294967295 : Nat) : Int) := by
  induction d with
  | zero =>
    intro k i r hd hi hk hr
    obtain ⟨k, rfl⟩ : ∃ m, k = m + 1 := ⟨k - 1, by omega⟩
    have e : s.toList.drop i = [] := List.drop_of_length_le (by rw [len_eq]; omega)
    simp only [sextonref02_Sum.l0]
    rw [if_neg (by omega), e, not_i64 hr]
    rfl
  | succ d ih =>
    intro k i r hd hi hk hr
    obtain ⟨k, rfl⟩ : ∃ m, k = m + 1 := ⟨k - 1, by omega⟩
    have hlt : i < s.toList.length := by rw [len_eq]; omega
    simp only [sextonref02_Sum.l0]
    rw [if_pos (by omega), if_pos (by omega), bt_get s i hlt, w64_byte, ref_bits_is hr (UInt8.toNat_lt _) k (by omega)]
    simp only [Option.bind_some]
    rw [wrap64_in (by omega) (by omega), show (i : Int) + 1 = ((i + 1 : Nat) : Int) by omega, ih k (i + 1) _ (by omega) (by omega) (by omega) (bitN_lt hr (UInt8.toNat_lt _)), drop_at s i (by omega)]
    rfl
theorem ref_sum_is (s : ByteArray) (hs : s.size ≤ 9223372036854775806) (k : Nat) (hk : s.size + 9 < k) : sextonref02_Sum.f k s = some ((sumN s.toList : Nat) : Int) := by
  unfold sextonref02_Sum.f
  have := ref_sum_loop s hs s.size k 0 4294967295 (by omega) (by omega) hk (by decide)
  rw [List.drop_zero] at this
  exact this
theorem nums_list (xs : List Int) : (strOfNums xs).toList = xs.map fun n => UInt8.ofNat n.toNat := by rw [Lib.toList_data]; rfl
theorem tail_is (n : Nat) (h : n < 2 ^ 32) : poly_tail.f (n : Int) = some ⟨(tailB n).toArray⟩ := by
  unfold poly_tail.f
  congr 1
theorem tail_size (n : Nat) : (⟨(tailB n).toArray⟩ : ByteArray).size = 4 := rfl
/-- A text with its sum. -/
def guardV (s : ByteArray) : ByteArray := s ++ ⟨(tailB (sumN s.toList)).toArray⟩
theorem guard_is (s : ByteArray) (hs : s.size ≤ 9223372036854775800) (k : Nat) (hk : s.size < k) : poly_Guard.f k s = some (guardV s) := by
  unfold poly_Guard.f
  rw [sum_is s (by omega) k hk]
  simp only [Option.bind_some]
  rw [tail_is _ (sumN_lt _)]
  simp only [Option.bind_some]
  rw [tail_size, if_pos (by omega)]
  rfl
def unguardV (s : ByteArray) : ByteArray × Int := if s.size < 4 then (⟨#[]⟩, 10) else if s.toList.drop (s.size - 4) = tailB (sumN (s.toList.take (s.size - 4))) then (⟨(s.toList.take (s.size - 4)).toArray⟩, 0) else (⟨#[]⟩, 20)
theorem extract_list (s : ByteArray) (a b : Nat) : (s.extract a b).toList = (s.toList.take b).drop a := by
  rw [Lib.toList_data, Lib.toList_data, Lib.extract_data, List.drop_take]
theorem extract_eq (s : ByteArray) (b : Nat) : s.extract 0 b = ⟨(s.toList.take b).toArray⟩ := by
  apply ext_list
  rw [mk_toList (s.toList.take b), extract_list, List.drop_zero]
theorem extract_end (s : ByteArray) (a : Nat) : (s.extract a s.size).toList = s.toList.drop a := by
  rw [extract_list, List.take_of_length_le (by rw [len_eq]; exact Nat.le_refl _)]
theorem unguard_is (s : ByteArray) (hs : s.size ≤ 9223372036854775800) (k : Nat) (hk : s.size < k) : poly_Unguard.f k s = some (unguardV s) := by
  unfold poly_Unguard.f unguardV
  by_cases h : s.size < 4
  · rw [wrap64_in (by omega) (by omega), if_pos (by omega), if_pos h]
  · rw [wrap64_in (by omega) (by omega), if_neg (by omega), if_neg h, if_pos (by omega), if_pos (by omega)]
    have e : ((s.size : Int) - 4).toNat = s.size - 4 := by omega
    rw [e, extract_eq, sum_is _ (by rw [mk_size (s.toList.take (s.size - 4)), List.length_take]; omega) k (by rw [mk_size (s.toList.take (s.size - 4)), List.length_take]; omega)]
    simp only [Option.bind_some]
    rw [tail_is _ (sumN_lt _)]
    simp only [Option.bind_some]
    rw [extract_end, mk_toList (tailB _), mk_toList (s.toList.take (s.size - 4))]
    by_cases h2 : s.toList.drop (s.size - 4) = tailB (sumN (s.toList.take (s.size - 4)))
    · rw [if_pos h2, if_pos h2]
    · rw [if_neg h2, if_neg h2]
theorem ref_guard_is (s : ByteArray) (hs : s.size ≤ 9223372036854775800) (k : Nat) (hk : s.size + 9 < k) : sextonref02_Guard.f k s = some (guardV s) := by
  unfold sextonref02_Guard.f
  rw [ref_sum_is s (by omega) k hk]
  simp only [Option.bind_some]
  have hn := sumN_lt s.toList
  unfold guardV
  generalize sumN s.toList = n at hn ⊢
  have e0 : Int.tmod (n : Int) 256 = ((n % 256 : Nat) : Int) := rfl
  have e1 : Int.tdiv (n : Int) 256 = ((n / 256 : Nat) : Int) := rfl
  have e2 : Int.tdiv (n : Int) 65536 = ((n / 65536 : Nat) : Int) := rfl
  have e3 : Int.tdiv (n : Int) 16777216 = ((n / 16777216 : Nat) : Int) := rfl
  rw [e0, e1, e2, e3, wrap64_in (n := ((n / 256 : Nat) : Int)) (by omega) (by omega), wrap64_in (n := ((n / 65536 : Nat) : Int)) (by omega) (by omega), wrap64_in (n := ((n / 16777216 : Nat) : Int)) (by omega) (by omega)]
  have f1 : Int.tmod ((n / 256 : Nat) : Int) 256 = ((n / 256 % 256 : Nat) : Int) := rfl
  have f2 : Int.tmod ((n / 65536 : Nat) : Int) 256 = ((n / 65536 % 256 : Nat) : Int) := rfl
  rw [f1, f2]
  have g : strOfNums [((n % 256 : Nat) : Int) % 256, ((n / 256 % 256 : Nat) : Int) % 256, ((n / 65536 % 256 : Nat) : Int) % 256, ((n / 16777216 : Nat) : Int) % 256] = ⟨(tailB n).toArray⟩ := by
    apply ext_list
    rw [nums_list, mk_toList]
    simp only [List.map_cons, List.map_nil, tailB]
    rw [show ((n % 256 : Nat) : Int) % 256 = ((n % 256 : Nat) : Int) by omega, show ((n / 256 % 256 : Nat) : Int) % 256 = ((n / 256 % 256 : Nat) : Int) by omega, show ((n / 65536 % 256 : Nat) : Int) % 256 = ((n / 65536 % 256 : Nat) : Int) by omega, show ((n / 16777216 : Nat) : Int) % 256 = ((n / 16777216 % 256 : Nat) : Int) by omega]
    rfl
  rw [g, tail_size, if_pos (by omega)]
theorem guard_list (s : ByteArray) : (guardV s).toList = s.toList ++ tailB (sumN s.toList) := by rw [guardV, app_list, mk_toList (tailB _)]
theorem ref_unguard_is (s : ByteArray) (hs : s.size ≤ 9223372036854775800) (k : Nat) (hk : s.size + 9 < k) : sextonref02_Unguard.f k s = some (unguardV s) := by
  unfold sextonref02_Unguard.f unguardV
  by_cases h : s.size < 4
  · rw [if_pos (by omega), if_pos h]
  · rw [wrap64_in (by omega) (by omega), if_neg (by omega), if_neg h, if_pos (by omega), if_pos (by omega)]
    have e : ((s.size : Int) - 4).toNat = s.size - 4 := by omega
    rw [e, extract_eq, ref_guard_is _ (by rw [mk_size (s.toList.take (s.size - 4)), List.length_take]; omega) k (by rw [mk_size (s.toList.take (s.size - 4)), List.length_take]; omega)]
    simp only [Option.bind_some]
    rw [guard_list, mk_toList (s.toList.take (s.size - 4))]
    have hsplit : s.toList = s.toList.take (s.size - 4) ++ s.toList.drop (s.size - 4) := (List.take_append_drop _ _).symm
    by_cases h2 : s.toList.drop (s.size - 4) = tailB (sumN (s.toList.take (s.size - 4)))
    · rw [if_pos (by rw [← h2]; exact List.take_append_drop _ _), if_pos h2]
    · rw [if_neg (fun h3 => h2 (by
        have h4 := h3.trans hsplit
        exact (List.append_cancel_left h4).symm)), if_neg h2]
theorem unguard_guard (s : ByteArray) : unguardV (guardV s) = (s, 0) := by
  have hz : (guardV s).size = s.size + 4 := by
    rw [← len_eq, guard_list, List.length_append, len_eq]
    rfl
  unfold unguardV
  rw [hz, if_neg (by omega), guard_list, show s.size + 4 - 4 = s.toList.length by rw [len_eq]; omega, List.drop_left, List.take_left, if_pos rfl, mk_of_list]
end Go.Proofs.YthmeagbfoccnlaaDoor.FA
